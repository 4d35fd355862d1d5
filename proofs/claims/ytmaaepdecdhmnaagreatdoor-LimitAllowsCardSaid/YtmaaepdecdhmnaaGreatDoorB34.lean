/- Part 34 of the proof. -/
import Derived.Test.YtmaaepdecdhmnaaGreatDoorRows
import Derived.JoinedOf
import Derived.KernelRfl
section
open Go
namespace Go.Proofs.YtmaaepdecdhmnaaGreatDoor
set_option maxRecDepth 100000
theorem jf0:(Rows.limitAllowsRow.wf (OpenSpec.ofChange Rows.limitAllowsSpec))=true:=by kernel_rfl
theorem jf4:(namedTie Tryz.prog Rows.limitAllowsRow.named Rows.limitAllowsSpec.vars)=true:=by kernel_rfl
theorem jf8:((Tryz.prog.stopKnobs==[]))=true:=by kernel_rfl
theorem qBi:((Rows.limitAllowsRow.loops==(Tryz.f3.params.toList++Rows.limitAllowsSpec.plain.varTypes Tryz.prog).any (Tryz.prog.loopsFrom ·)))=true:=by kernel_rfl
theorem qBm:((Rows.limitAllowsRow.ifacesOut==Tryz.f3.resultTypes.toList.any (Tryz.prog.ifacesRec ·)))=true:=by kernel_rfl
theorem qBq:(Tryz.prog.stopsHeard)=true:=by kernel_rfl
theorem qBu:((Rows.limitAllowsRow.kinds==(if Rows.limitAllowsRow.domain.isEmpty then []else Tryz.f3.params.toList.map fun t=>match Tryz.prog.underlying t with|some (.int k)=>some k|_=>none)))=true:=by kernel_rfl
end Go.Proofs.YtmaaepdecdhmnaaGreatDoor
end
