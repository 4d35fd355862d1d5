/- Part 23 of the proof: CbJf25Ab. -/
import Derived.Test.YtkijgkjjbanipaaGreatDoorRows
import Derived.JoinedOf
import Derived.KernelRfl
open Go
namespace Go.Proofs.YtkijgkjjbanipaaGreatDoor
set_option maxRecDepth 100000
theorem jf5 : ((Rows.limitAvailableRow.stops == [])) = true := by kernel_rfl
theorem jf9 : ((Rows.limitAvailableRow.inPlace == Tryz.prog.inPlace 4)) = true := by kernel_rfl
theorem jf13 : ((Rows.limitAvailableRow.maps == (Tryz.f4.params.toList ++ Rows.limitAvailableSpec.plain.varTypes Tryz.prog).any (Tryz.prog.mapsRec ·))) = true := by kernel_rfl
theorem jf17 : ((Rows.limitAvailableRow.wideKeys == (Tryz.f4.params.toList ++ Rows.limitAvailableSpec.plain.varTypes Tryz.prog ++ Tryz.f4.resultTypes.toList).any (Tryz.prog.wideKeysFrom ·))) = true := by kernel_rfl
theorem jf21 : ((Rows.limitAvailableRow.loopsOut == Tryz.f4.resultTypes.toList.any (Tryz.prog.loopsFrom ·))) = true := by kernel_rfl
theorem jf25 : (Tryz.prog.mayEnter) = true := by kernel_rfl
theorem jf29 : ((Rows.limitAvailableRow.pinned == Rows.limitAvailableRow.pinnedBy)) = true := by kernel_rfl
end Go.Proofs.YtkijgkjjbanipaaGreatDoor

