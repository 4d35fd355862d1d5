/- Part 34 of the proof: CbJf25Ha. -/
import Derived.Test.YtcihddahcplehaaGreatDoorRows
import Derived.JoinedOf
import Derived.KernelRfl
open Go
namespace Go.Proofs.YtcihddahcplehaaGreatDoor
set_option maxRecDepth 100000
theorem jf0:(Rows.limitHoldsRow.wf (OpenSpec.ofChange Rows.limitHoldsSpec))=true:=by kernel_rfl
theorem jf4:(namedTie Tryz.prog Rows.limitHoldsRow.named Rows.limitHoldsSpec.vars)=true:=by kernel_rfl
theorem jf8:((Tryz.prog.stopKnobs==[]))=true:=by kernel_rfl
theorem qzI:((Rows.limitHoldsRow.loops==(Tryz.f3.params.toList++Rows.limitHoldsSpec.plain.varTypes Tryz.prog).any (Tryz.prog.loopsFrom ·)))=true:=by kernel_rfl
theorem qDT:((Rows.limitHoldsRow.ifacesOut==Tryz.f3.resultTypes.toList.any (Tryz.prog.ifacesRec ·)))=true:=by kernel_rfl
theorem qE2:(Tryz.prog.stopsHeard)=true:=by kernel_rfl
theorem qFy:((Rows.limitHoldsRow.kinds==(if Rows.limitHoldsRow.domain.isEmpty then [] else Tryz.f3.params.toList.map fun t=>match Tryz.prog.underlying t with|some (.int k)=>some k|_=>none)))=true:=by kernel_rfl
end Go.Proofs.YtcihddahcplehaaGreatDoor

