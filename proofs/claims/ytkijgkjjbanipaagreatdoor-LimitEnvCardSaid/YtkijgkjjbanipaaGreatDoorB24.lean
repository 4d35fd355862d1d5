/- Part 24 of the proof: CbJf25Eb. -/
import Derived.Test.YtkijgkjjbanipaaGreatDoorRows
import Derived.JoinedOf
import Derived.KernelRfl
set_option linter.all false
open Go
namespace Go.Proofs.YtkijgkjjbanipaaGreatDoor
set_option maxRecDepth 100000
theorem jf5 : ((Rows.limitEnvRow.stops == [])) = true := by kernel_rfl
theorem jf9 : ((Rows.limitEnvRow.inPlace == Tryz.prog.inPlace 3)) = true := by kernel_rfl
theorem jf13 : ((Rows.limitEnvRow.maps == (Tryz.f3.params.toList ++ Rows.limitEnvSpec.plain.varTypes Tryz.prog).any (Tryz.prog.mapsRec ·))) = true := by kernel_rfl
theorem jf17 : ((Rows.limitEnvRow.wideKeys == (Tryz.f3.params.toList ++ Rows.limitEnvSpec.plain.varTypes Tryz.prog ++ Tryz.f3.resultTypes.toList).any (Tryz.prog.wideKeysFrom ·))) = true := by kernel_rfl
theorem jf21 : ((Rows.limitEnvRow.loopsOut == Tryz.f3.resultTypes.toList.any (Tryz.prog.loopsFrom ·))) = true := by kernel_rfl
theorem jf25 : (Tryz.prog.mayEnter) = true := by kernel_rfl
theorem jf29 : ((Rows.limitEnvRow.pinned == Rows.limitEnvRow.pinnedBy)) = true := by kernel_rfl
end Go.Proofs.YtkijgkjjbanipaaGreatDoor

