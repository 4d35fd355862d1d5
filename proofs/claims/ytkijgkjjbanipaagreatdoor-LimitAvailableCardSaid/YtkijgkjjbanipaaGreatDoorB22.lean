/- Part 22 of the proof: CbJf25Aa. -/
import Derived.Test.YtkijgkjjbanipaaGreatDoorRows
import Derived.JoinedOf
import Derived.KernelRfl
open Go
namespace Go.Proofs.YtkijgkjjbanipaaGreatDoor
set_option maxRecDepth 100000
theorem jf0 : (Rows.limitAvailableRow.wf (OpenSpec.ofChange Rows.limitAvailableSpec)) = true := by kernel_rfl
theorem jf4 : (namedTie Tryz.prog Rows.limitAvailableRow.named Rows.limitAvailableSpec.vars) = true := by kernel_rfl
theorem jf8 : ((Tryz.prog.stopKnobs == [])) = true := by kernel_rfl
theorem jf16 : ((Rows.limitAvailableRow.loops == (Tryz.f4.params.toList ++ Rows.limitAvailableSpec.plain.varTypes Tryz.prog).any (Tryz.prog.loopsFrom ·))) = true := by kernel_rfl
theorem jf20 : ((Rows.limitAvailableRow.ifacesOut == Tryz.f4.resultTypes.toList.any (Tryz.prog.ifacesRec ·))) = true := by kernel_rfl
theorem jf24 : (Tryz.prog.stopsHeard) = true := by kernel_rfl
theorem jf28 : ((Rows.limitAvailableRow.kinds == (if Rows.limitAvailableRow.domain.isEmpty then [] else Tryz.f4.params.toList.map fun t => match Tryz.prog.underlying t with | some (.int k) => some k | _ => none))) = true := by kernel_rfl
end Go.Proofs.YtkijgkjjbanipaaGreatDoor

