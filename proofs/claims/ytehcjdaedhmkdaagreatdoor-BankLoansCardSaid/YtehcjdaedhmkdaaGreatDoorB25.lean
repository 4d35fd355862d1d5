/- Part 25 of the proof: CbJf51Lb. -/
import Derived.Test.YtehcjdaedhmkdaaGreatDoorRows
import Derived.JoinedOf
import Derived.KernelRfl
open Go
namespace Go.Proofs.YtehcjdaedhmkdaaGreatDoor
set_option maxRecDepth 100000
theorem jf5 : ((Rows.bankLoansRow.stops == [])) = true := by kernel_rfl
theorem jf9 : ((Rows.bankLoansRow.inPlace == Tryz.prog.inPlace 4)) = true := by kernel_rfl
theorem jf13 : ((Rows.bankLoansRow.maps == (Tryz.f4.params.toList ++ Rows.bankLoansSpec.plain.varTypes Tryz.prog).any (Tryz.prog.mapsRec ·))) = true := by kernel_rfl
theorem jf17 : ((Rows.bankLoansRow.wideKeys == (Tryz.f4.params.toList ++ Rows.bankLoansSpec.plain.varTypes Tryz.prog ++ Tryz.f4.resultTypes.toList).any (Tryz.prog.wideKeysFrom ·))) = true := by kernel_rfl
theorem jf21 : ((Rows.bankLoansRow.loopsOut == Tryz.f4.resultTypes.toList.any (Tryz.prog.loopsFrom ·))) = true := by kernel_rfl
theorem jf25 : (Tryz.prog.mayEnter) = true := by kernel_rfl
theorem jf29 : ((Rows.bankLoansRow.pinned == Rows.bankLoansRow.pinnedBy)) = true := by kernel_rfl
end Go.Proofs.YtehcjdaedhmkdaaGreatDoor

