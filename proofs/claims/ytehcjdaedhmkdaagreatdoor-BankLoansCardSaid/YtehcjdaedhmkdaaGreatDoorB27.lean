/- Part 27 of the proof: CbJf51Ld. -/
import Derived.Test.YtehcjdaedhmkdaaGreatDoorRows
import Derived.JoinedOf
import Derived.KernelRfl
open Go
namespace Go.Proofs.YtehcjdaedhmkdaaGreatDoor
set_option maxRecDepth 100000
theorem jf3 : (Tryz.f4.params.all (Tryz.prog.readableRec ·)) = true := by kernel_rfl
theorem jf7 : ((Rows.bankLoansRow.knobs == [])) = true := by kernel_rfl
theorem jf11 : ((Rows.bankLoansRow.recurses == Tryz.prog.recurses 4)) = true := by kernel_rfl
theorem jf15 : ((Rows.bankLoansRow.mapsOut == Tryz.prog.mapsAmong Tryz.f4.resultTypes.toList)) = true := by kernel_rfl
theorem jf19 : (Tryz.f4.resultTypes.all (fun t => Tryz.prog.readableRec t && decide (t < Tryz.prog.types.size))) = true := by kernel_rfl
theorem jf23 : (Rows.bankLoansRow.shortTexts.isNone) = true := by kernel_rfl
theorem jf27 : ((Tryz.prog.make == some Rows.bankLoansRow.make)) = true := by kernel_rfl
theorem jf31 : (Rows.bankLoansRow.veiledFits Tryz.prog Tryz.f4.params.toList (Tryz.f4.params.toList ++ Rows.bankLoansSpec.plain.varTypes Tryz.prog ++ Tryz.f4.resultTypes.toList)) = true := by kernel_rfl
end Go.Proofs.YtehcjdaedhmkdaaGreatDoor

