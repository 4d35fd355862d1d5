/- Part 23 of the proof: CbJf29Sb. -/
import Derived.Test.YtakfofnggifenaaGreatDoorRows
import Derived.JoinedOf
import Derived.KernelRfl
open Go
namespace Go.Proofs.YtakfofnggifenaaGreatDoor
set_option maxRecDepth 100000
theorem jf5 : ((Rows.settleEntriesRow.stops == [])) = true := by kernel_rfl
theorem jf9 : ((Rows.settleEntriesRow.inPlace == Tryz.prog.inPlace 4)) = true := by kernel_rfl
theorem jf13 : ((Rows.settleEntriesRow.maps == (Tryz.f4.params.toList ++ Rows.settleEntriesSpec.plain.varTypes Tryz.prog).any (Tryz.prog.mapsRec ·))) = true := by kernel_rfl
theorem jf17 : ((Rows.settleEntriesRow.wideKeys == (Tryz.f4.params.toList ++ Rows.settleEntriesSpec.plain.varTypes Tryz.prog ++ Tryz.f4.resultTypes.toList).any (Tryz.prog.wideKeysFrom ·))) = true := by kernel_rfl
theorem jf21 : ((Rows.settleEntriesRow.loopsOut == Tryz.f4.resultTypes.toList.any (Tryz.prog.loopsFrom ·))) = true := by kernel_rfl
theorem jf25 : (Tryz.prog.mayEnter) = true := by kernel_rfl
theorem jf29 : ((Rows.settleEntriesRow.pinned == Rows.settleEntriesRow.pinnedBy)) = true := by kernel_rfl
end Go.Proofs.YtakfofnggifenaaGreatDoor

