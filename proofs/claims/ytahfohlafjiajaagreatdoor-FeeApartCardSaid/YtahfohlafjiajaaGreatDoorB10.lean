/- Part 10 of the proof: CbDg28A. -/
import Derived.Test.YtahfohlafjiajaaGreatDoorB9
open Go.Proofs Go.Proofs.YtahfohlafjiajaaGreatDoor
namespace Go.Sim
noncomputable def F9:PF:=qfj Tryz.prog nm Tryz.f14
noncomputable def F14:PF:=qiq (qfj Tryz.prog nm Tryz.f37) [[0,1,5]]
noncomputable def quJ:PF:=qiq (qfj Tryz.prog nm Tryz.f119) [[1,6,7],[1,16,17]]
noncomputable def qtH:PF:=qiq (qfj Tryz.prog nm Tryz.f234) [[1,16,17],[1,33,34]]
noncomputable def qtr:PF:=qfj Tryz.prog nm Tryz.f265
noncomputable def qsr:PF:=qfj Tryz.prog nm Tryz.f273
noncomputable def qrk:PF:=qiq (qfj Tryz.prog nm Tryz.f277) [[0,3,4,5,6],[0,9,10,12],[0,9,10,11,12],[0,9,10,12]]
noncomputable def qrB:PF:=qiq (qfj Tryz.prog nm Tryz.f12) [[1,2,5,6,12,17,18,43,44,45]]
noncomputable def qsv:PF:=qiq (qfj Tryz.prog nm Tryz.f147) [[0,10,11,12],[0,4,10,11,12,24,25,26]]
noncomputable def qrH:PF:=qfj Tryz.prog nm Tryz.f23
noncomputable def qtG:PF:=qiq (qfj Tryz.prog nm Tryz.f15) [[3,6,7,8]]
noncomputable def qsW:PF:=qfj Tryz.prog nm Tryz.f56
noncomputable def quV:PF:=qfj Tryz.prog nm Tryz.f57
noncomputable def qt5:PF:=qfj Tryz.prog nm Tryz.f58
end Go.Sim

