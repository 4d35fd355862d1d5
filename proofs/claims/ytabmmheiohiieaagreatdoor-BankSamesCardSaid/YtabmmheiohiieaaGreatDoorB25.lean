/- Part 25 of the proof: CbJf51sb. -/
import Derived.Test.YtabmmheiohiieaaGreatDoorRows
import Derived.JoinedOf
import Derived.KernelRfl
open Go
namespace Go.Proofs.YtabmmheiohiieaaGreatDoor
set_option maxRecDepth 100000
theorem jf5 : ((Rows.bankSamesRow.stops == [])) = true := by kernel_rfl
theorem jf9 : ((Rows.bankSamesRow.inPlace == Tryz.prog.inPlace 3)) = true := by kernel_rfl
theorem jf13 : ((Rows.bankSamesRow.maps == (Tryz.f3.params.toList ++ Rows.bankSamesSpec.plain.varTypes Tryz.prog).any (Tryz.prog.mapsRec ·))) = true := by kernel_rfl
theorem jf17 : ((Rows.bankSamesRow.wideKeys == (Tryz.f3.params.toList ++ Rows.bankSamesSpec.plain.varTypes Tryz.prog ++ Tryz.f3.resultTypes.toList).any (Tryz.prog.wideKeysFrom ·))) = true := by kernel_rfl
theorem jf21 : ((Rows.bankSamesRow.loopsOut == Tryz.f3.resultTypes.toList.any (Tryz.prog.loopsFrom ·))) = true := by kernel_rfl
theorem jf25 : (Tryz.prog.mayEnter) = true := by kernel_rfl
theorem jf29 : ((Rows.bankSamesRow.pinned == Rows.bankSamesRow.pinnedBy)) = true := by kernel_rfl
end Go.Proofs.YtabmmheiohiieaaGreatDoor

