/- Part 24 of the proof: CbJf51Pb. -/
import Derived.Test.YtehcjdaedhmkdaaGreatDoorRows
import Derived.JoinedOf
import Derived.KernelRfl
open Go
namespace Go.Proofs.YtehcjdaedhmkdaaGreatDoor
set_option maxRecDepth 100000
theorem jf5 : ((Rows.bankPaidRow.stops == [])) = true := by kernel_rfl
theorem jf9 : ((Rows.bankPaidRow.inPlace == Tryz.prog.inPlace 3)) = true := by kernel_rfl
theorem jf13 : ((Rows.bankPaidRow.maps == (Tryz.f3.params.toList ++ Rows.bankPaidSpec.plain.varTypes Tryz.prog).any (Tryz.prog.mapsRec ·))) = true := by kernel_rfl
theorem jf17 : ((Rows.bankPaidRow.wideKeys == (Tryz.f3.params.toList ++ Rows.bankPaidSpec.plain.varTypes Tryz.prog ++ Tryz.f3.resultTypes.toList).any (Tryz.prog.wideKeysFrom ·))) = true := by kernel_rfl
theorem jf21 : ((Rows.bankPaidRow.loopsOut == Tryz.f3.resultTypes.toList.any (Tryz.prog.loopsFrom ·))) = true := by kernel_rfl
theorem jf25 : (Tryz.prog.mayEnter) = true := by kernel_rfl
theorem jf29 : ((Rows.bankPaidRow.pinned == Rows.bankPaidRow.pinnedBy)) = true := by kernel_rfl
end Go.Proofs.YtehcjdaedhmkdaaGreatDoor

