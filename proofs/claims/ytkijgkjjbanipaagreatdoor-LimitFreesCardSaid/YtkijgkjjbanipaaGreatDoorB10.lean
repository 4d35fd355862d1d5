/- Part 10 of the proof: CbDg25F. -/
import Derived.Test.YtkijgkjjbanipaaGreatDoorB9
open Go.Proofs Go.Proofs.YtkijgkjjbanipaaGreatDoor
namespace Go.Sim
noncomputable def qsT:PF:=qnb (qgP Tryz.prog nm Tryz.f151) [[1,6,7],[1,16,17]]
noncomputable def que:PF:=qnb (qgP Tryz.prog nm Tryz.f254) [[1,16,17],[1,33,34]]
noncomputable def qtL:PF:=qgP Tryz.prog nm Tryz.f294
noncomputable def qst:PF:=qgP Tryz.prog nm Tryz.f303
noncomputable def qsk:PF:=qnb (qgP Tryz.prog nm Tryz.f307) [[0,3,4,5,6],[0,9,10,12],[0,9,10,11,12],[0,9,10,12]]
noncomputable def qul:PF:=qnb (qgP Tryz.prog nm Tryz.f174) [[0,10,11,12],[0,4,10,11,12,24,25,26]]
noncomputable def qtE:PF:=qgP Tryz.prog nm Tryz.f10
noncomputable def qvw:PF:=qgP Tryz.prog nm Tryz.f34
noncomputable def qtH:PF:=qgP Tryz.prog nm Tryz.f35
end Go.Sim

