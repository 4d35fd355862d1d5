/- Part 23 of the proof: CbJf25Ea. -/
import Derived.Test.YtkijgkjjbanipaaGreatDoorRows
import Derived.JoinedOf
import Derived.KernelRfl
set_option linter.all false
open Go
namespace Go.Proofs.YtkijgkjjbanipaaGreatDoor
set_option maxRecDepth 100000
theorem jf0 : (Rows.limitEnvRow.wf (OpenSpec.ofChange Rows.limitEnvSpec)) = true := by kernel_rfl
theorem jf4 : (namedTie Tryz.prog Rows.limitEnvRow.named Rows.limitEnvSpec.vars) = true := by kernel_rfl
theorem jf8 : ((Tryz.prog.stopKnobs == [])) = true := by kernel_rfl
theorem jf16 : ((Rows.limitEnvRow.loops == (Tryz.f3.params.toList ++ Rows.limitEnvSpec.plain.varTypes Tryz.prog).any (Tryz.prog.loopsFrom ·))) = true := by kernel_rfl
theorem jf20 : ((Rows.limitEnvRow.ifacesOut == Tryz.f3.resultTypes.toList.any (Tryz.prog.ifacesRec ·))) = true := by kernel_rfl
theorem jf24 : (Tryz.prog.stopsHeard) = true := by kernel_rfl
theorem jf28 : ((Rows.limitEnvRow.kinds == (if Rows.limitEnvRow.domain.isEmpty then [] else Tryz.f3.params.toList.map fun t => match Tryz.prog.underlying t with | some (.int k) => some k | _ => none))) = true := by kernel_rfl
end Go.Proofs.YtkijgkjjbanipaaGreatDoor

