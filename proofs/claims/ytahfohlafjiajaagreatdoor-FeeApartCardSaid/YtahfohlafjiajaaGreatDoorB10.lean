/- Part 10 of the proof: CbDg28A. -/
import Derived.Test.YtahfohlafjiajaaGreatDoorB9
open Go.Proofs Go.Proofs.YtahfohlafjiajaaGreatDoor
namespace Go.Sim
noncomputable def F9:PF:=qfl Tryz.prog nm Tryz.f14
noncomputable def F14:PF:=qh4 (qfl Tryz.prog nm Tryz.f37) [[0,1,5]]
noncomputable def qrx:PF:=qh4 (qfl Tryz.prog nm Tryz.f119) [[1,6,7],[1,16,17]]
noncomputable def qtP:PF:=qh4 (qfl Tryz.prog nm Tryz.f234) [[1,16,17],[1,33,34]]
noncomputable def qrR:PF:=qfl Tryz.prog nm Tryz.f265
noncomputable def qqZ:PF:=qfl Tryz.prog nm Tryz.f273
noncomputable def qtj:PF:=qh4 (qfl Tryz.prog nm Tryz.f277) [[0,3,4,5,6],[0,9,10,12],[0,9,10,11,12],[0,9,10,12]]
noncomputable def qsQ:PF:=qh4 (qfl Tryz.prog nm Tryz.f12) [[1,2,5,6,12,17,18,43,44,45]]
noncomputable def qrz:PF:=qh4 (qfl Tryz.prog nm Tryz.f147) [[0,10,11,12],[0,4,10,11,12,24,25,26]]
noncomputable def quT:PF:=qfl Tryz.prog nm Tryz.f23
noncomputable def qt7:PF:=qh4 (qfl Tryz.prog nm Tryz.f15) [[3,6,7,8]]
noncomputable def qsW:PF:=qfl Tryz.prog nm Tryz.f56
noncomputable def qvb:PF:=qfl Tryz.prog nm Tryz.f57
noncomputable def qse:PF:=qfl Tryz.prog nm Tryz.f58
end Go.Sim

