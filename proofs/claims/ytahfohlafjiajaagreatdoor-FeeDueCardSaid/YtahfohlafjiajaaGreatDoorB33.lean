/- Part 33 of the proof: CbJf28Da. -/
import Derived.Test.YtahfohlafjiajaaGreatDoorRows
import Derived.JoinedOf
import Derived.KernelRfl
open Go
namespace Go.Proofs.YtahfohlafjiajaaGreatDoor
set_option maxRecDepth 100000
theorem jf0:(Rows.feeDueRow.wf (OpenSpec.ofChange Rows.feeDueSpec))=true:=by kernel_rfl
theorem jf4:(namedTie Tryz.prog Rows.feeDueRow.named Rows.feeDueSpec.vars)=true:=by kernel_rfl
theorem jf8:((Tryz.prog.stopKnobs==[]))=true:=by kernel_rfl
theorem qz6:((Rows.feeDueRow.loops==(Tryz.f3.params.toList++Rows.feeDueSpec.plain.varTypes Tryz.prog).any (Tryz.prog.loopsFrom ·)))=true:=by kernel_rfl
theorem qAa:((Rows.feeDueRow.ifacesOut==Tryz.f3.resultTypes.toList.any (Tryz.prog.ifacesRec ·)))=true:=by kernel_rfl
theorem qAe:(Tryz.prog.stopsHeard)=true:=by kernel_rfl
theorem qAi:((Rows.feeDueRow.kinds==(if Rows.feeDueRow.domain.isEmpty then [] else Tryz.f3.params.toList.map fun t=>match Tryz.prog.underlying t with|some (.int k)=>some k|_=>none)))=true:=by kernel_rfl
end Go.Proofs.YtahfohlafjiajaaGreatDoor

