/- Part 31 of the proof: CbJf25Fa. -/
import Derived.Test.YtkijgkjjbanipaaGreatDoorRows
import Derived.JoinedOf
import Derived.KernelRfl
open Go
namespace Go.Proofs.YtkijgkjjbanipaaGreatDoor
set_option maxRecDepth 100000
theorem jf0:(Rows.limitFreesRow.wf (OpenSpec.ofChange Rows.limitFreesSpec))=true:=by kernel_rfl
theorem jf4:(namedTie Tryz.prog Rows.limitFreesRow.named Rows.limitFreesSpec.vars)=true:=by kernel_rfl
theorem jf8:((Tryz.prog.stopKnobs==[]))=true:=by kernel_rfl
theorem qFR:((Rows.limitFreesRow.loops==(Tryz.f6.params.toList++Rows.limitFreesSpec.plain.varTypes Tryz.prog).any (Tryz.prog.loopsFrom ·)))=true:=by kernel_rfl
theorem qyQ:((Rows.limitFreesRow.ifacesOut==Tryz.f6.resultTypes.toList.any (Tryz.prog.ifacesRec ·)))=true:=by kernel_rfl
theorem qE3:(Tryz.prog.stopsHeard)=true:=by kernel_rfl
theorem qDq:((Rows.limitFreesRow.kinds==(if Rows.limitFreesRow.domain.isEmpty then [] else Tryz.f6.params.toList.map fun t=>match Tryz.prog.underlying t with|some (.int k)=>some k|_=>none)))=true:=by kernel_rfl
end Go.Proofs.YtkijgkjjbanipaaGreatDoor

