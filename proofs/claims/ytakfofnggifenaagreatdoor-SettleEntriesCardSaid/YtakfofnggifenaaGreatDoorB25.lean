/- Part 25 of the proof: CbJf29Sd. -/
import Derived.Test.YtakfofnggifenaaGreatDoorRows
import Derived.JoinedOf
import Derived.KernelRfl
open Go
namespace Go.Proofs.YtakfofnggifenaaGreatDoor
set_option maxRecDepth 100000
theorem jf3 : (Tryz.f4.params.all (Tryz.prog.readableRec ·)) = true := by kernel_rfl
theorem jf7 : ((Rows.settleEntriesRow.knobs == [])) = true := by kernel_rfl
theorem jf11 : ((Rows.settleEntriesRow.recurses == Tryz.prog.recurses 4)) = true := by kernel_rfl
theorem jf15 : ((Rows.settleEntriesRow.mapsOut == Tryz.prog.mapsAmong Tryz.f4.resultTypes.toList)) = true := by kernel_rfl
theorem jf19 : (Tryz.f4.resultTypes.all (fun t => Tryz.prog.readableRec t && decide (t < Tryz.prog.types.size))) = true := by kernel_rfl
theorem jf23 : (Rows.settleEntriesRow.shortTexts.isNone) = true := by kernel_rfl
theorem jf27 : ((Tryz.prog.make == some Rows.settleEntriesRow.make)) = true := by kernel_rfl
theorem jf31 : (Rows.settleEntriesRow.veiledFits Tryz.prog Tryz.f4.params.toList (Tryz.f4.params.toList ++ Rows.settleEntriesSpec.plain.varTypes Tryz.prog ++ Tryz.f4.resultTypes.toList)) = true := by kernel_rfl
end Go.Proofs.YtakfofnggifenaaGreatDoor

