/- Part 26 of the proof: CbJf25Ed. -/
import Derived.Test.YtkijgkjjbanipaaGreatDoorRows
import Derived.JoinedOf
import Derived.KernelRfl
set_option linter.all false
open Go
namespace Go.Proofs.YtkijgkjjbanipaaGreatDoor
set_option maxRecDepth 100000
theorem jf3 : (Tryz.f3.params.all (Tryz.prog.readableRec ·)) = true := by kernel_rfl
theorem jf7 : ((Rows.limitEnvRow.knobs == [])) = true := by kernel_rfl
theorem jf11 : ((Rows.limitEnvRow.recurses == Tryz.prog.recurses 3)) = true := by kernel_rfl
theorem jf15 : ((Rows.limitEnvRow.mapsOut == Tryz.prog.mapsAmong Tryz.f3.resultTypes.toList)) = true := by kernel_rfl
theorem jf19 : (Tryz.f3.resultTypes.all (fun t => Tryz.prog.readableRec t && decide (t < Tryz.prog.types.size))) = true := by kernel_rfl
theorem jf23 : (Rows.limitEnvRow.shortTexts.isNone) = true := by kernel_rfl
theorem jf27 : ((Tryz.prog.make == some Rows.limitEnvRow.make)) = true := by kernel_rfl
theorem jf31 : (Rows.limitEnvRow.veiledFits Tryz.prog Tryz.f3.params.toList (Tryz.f3.params.toList ++ Rows.limitEnvSpec.plain.varTypes Tryz.prog ++ Tryz.f3.resultTypes.toList)) = true := by kernel_rfl
end Go.Proofs.YtkijgkjjbanipaaGreatDoor

