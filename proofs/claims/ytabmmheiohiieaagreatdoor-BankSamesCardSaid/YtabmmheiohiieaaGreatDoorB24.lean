/- Part 24 of the proof: CbJf51sa. -/
import Derived.Test.YtabmmheiohiieaaGreatDoorRows
import Derived.JoinedOf
import Derived.KernelRfl
open Go
namespace Go.Proofs.YtabmmheiohiieaaGreatDoor
set_option maxRecDepth 100000
theorem jf0 : (Rows.bankSamesRow.wf (OpenSpec.ofChange Rows.bankSamesSpec)) = true := by kernel_rfl
theorem jf4 : (namedTie Tryz.prog Rows.bankSamesRow.named Rows.bankSamesSpec.vars) = true := by kernel_rfl
theorem jf8 : ((Tryz.prog.stopKnobs == [])) = true := by kernel_rfl
theorem jf16 : ((Rows.bankSamesRow.loops == (Tryz.f3.params.toList ++ Rows.bankSamesSpec.plain.varTypes Tryz.prog).any (Tryz.prog.loopsFrom ·))) = true := by kernel_rfl
theorem jf20 : ((Rows.bankSamesRow.ifacesOut == Tryz.f3.resultTypes.toList.any (Tryz.prog.ifacesRec ·))) = true := by kernel_rfl
theorem jf24 : (Tryz.prog.stopsHeard) = true := by kernel_rfl
theorem jf28 : ((Rows.bankSamesRow.kinds == (if Rows.bankSamesRow.domain.isEmpty then [] else Tryz.f3.params.toList.map fun t => match Tryz.prog.underlying t with | some (.int k) => some k | _ => none))) = true := by kernel_rfl
end Go.Proofs.YtabmmheiohiieaaGreatDoor

