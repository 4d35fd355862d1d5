/- Part 22 of the proof: CbJf29Eb. -/
import Derived.Test.YtakfofnggifenaaGreatDoorRows
import Derived.JoinedOf
import Derived.KernelRfl
open Go
namespace Go.Proofs.YtakfofnggifenaaGreatDoor
set_option maxRecDepth 100000
theorem jf5 : ((Rows.settleEndsRow.stops == [])) = true := by kernel_rfl
theorem jf9 : ((Rows.settleEndsRow.inPlace == Tryz.prog.inPlace 3)) = true := by kernel_rfl
theorem jf13 : ((Rows.settleEndsRow.maps == (Tryz.f3.params.toList ++ Rows.settleEndsSpec.plain.varTypes Tryz.prog).any (Tryz.prog.mapsRec ·))) = true := by kernel_rfl
theorem jf17 : ((Rows.settleEndsRow.wideKeys == (Tryz.f3.params.toList ++ Rows.settleEndsSpec.plain.varTypes Tryz.prog ++ Tryz.f3.resultTypes.toList).any (Tryz.prog.wideKeysFrom ·))) = true := by kernel_rfl
theorem jf21 : ((Rows.settleEndsRow.loopsOut == Tryz.f3.resultTypes.toList.any (Tryz.prog.loopsFrom ·))) = true := by kernel_rfl
theorem jf25 : (Tryz.prog.mayEnter) = true := by kernel_rfl
theorem jf29 : ((Rows.settleEndsRow.pinned == Rows.settleEndsRow.pinnedBy)) = true := by kernel_rfl
end Go.Proofs.YtakfofnggifenaaGreatDoor

