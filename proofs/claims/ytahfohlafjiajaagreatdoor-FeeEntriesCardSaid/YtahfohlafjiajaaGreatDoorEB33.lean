/- Part 33 of the proof: CbJf28Ea. -/
import Derived.Test.YtahfohlafjiajaaGreatDoorRows
import Derived.JoinedOf
import Derived.KernelRfl
open Go
namespace Go.Proofs.YtahfohlafjiajaaGreatDoor
set_option maxRecDepth 100000
theorem jf0:(Rows.feeEntriesRow.wf (OpenSpec.ofChange Rows.feeEntriesSpec))=true:=by kernel_rfl
theorem jf4:(namedTie Tryz.prog Rows.feeEntriesRow.named Rows.feeEntriesSpec.vars)=true:=by kernel_rfl
theorem jf8:((Tryz.prog.stopKnobs==[]))=true:=by kernel_rfl
theorem qAw:((Rows.feeEntriesRow.loops==(Tryz.f4.params.toList++Rows.feeEntriesSpec.plain.varTypes Tryz.prog).any (Tryz.prog.loopsFrom ·)))=true:=by kernel_rfl
theorem qAA:((Rows.feeEntriesRow.ifacesOut==Tryz.f4.resultTypes.toList.any (Tryz.prog.ifacesRec ·)))=true:=by kernel_rfl
theorem qAE:(Tryz.prog.stopsHeard)=true:=by kernel_rfl
theorem qAI:((Rows.feeEntriesRow.kinds==(if Rows.feeEntriesRow.domain.isEmpty then [] else Tryz.f4.params.toList.map fun t=>match Tryz.prog.underlying t with|some (.int k)=>some k|_=>none)))=true:=by kernel_rfl
end Go.Proofs.YtahfohlafjiajaaGreatDoor

