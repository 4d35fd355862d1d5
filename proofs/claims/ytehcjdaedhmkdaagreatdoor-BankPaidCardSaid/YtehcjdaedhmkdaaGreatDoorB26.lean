/- Part 26 of the proof: CbJf51Pd. -/
import Derived.Test.YtehcjdaedhmkdaaGreatDoorRows
import Derived.JoinedOf
import Derived.KernelRfl
open Go
namespace Go.Proofs.YtehcjdaedhmkdaaGreatDoor
set_option maxRecDepth 100000
theorem jf3 : (Tryz.f3.params.all (Tryz.prog.readableRec ·)) = true := by kernel_rfl
theorem jf7 : ((Rows.bankPaidRow.knobs == [])) = true := by kernel_rfl
theorem jf11 : ((Rows.bankPaidRow.recurses == Tryz.prog.recurses 3)) = true := by kernel_rfl
theorem jf15 : ((Rows.bankPaidRow.mapsOut == Tryz.prog.mapsAmong Tryz.f3.resultTypes.toList)) = true := by kernel_rfl
theorem jf19 : (Tryz.f3.resultTypes.all (fun t => Tryz.prog.readableRec t && decide (t < Tryz.prog.types.size))) = true := by kernel_rfl
theorem jf23 : (Rows.bankPaidRow.shortTexts.isNone) = true := by kernel_rfl
theorem jf27 : ((Tryz.prog.make == some Rows.bankPaidRow.make)) = true := by kernel_rfl
theorem jf31 : (Rows.bankPaidRow.veiledFits Tryz.prog Tryz.f3.params.toList (Tryz.f3.params.toList ++ Rows.bankPaidSpec.plain.varTypes Tryz.prog ++ Tryz.f3.resultTypes.toList)) = true := by kernel_rfl
end Go.Proofs.YtehcjdaedhmkdaaGreatDoor

