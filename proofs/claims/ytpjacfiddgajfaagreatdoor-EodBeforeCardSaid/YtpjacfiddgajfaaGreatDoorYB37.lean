/- Part 37 of the proof: CbJf52Yd. -/
import Derived.Test.YtpjacfiddgajfaaGreatDoorRows
import Derived.Test.YtpjacfiddgajfaaGreatDoorYB34
import Derived.JoinedOf
import Derived.KernelRfl
open Go
namespace Go.Proofs.YtpjacfiddgajfaaGreatDoor
set_option maxRecDepth 100000
theorem jf3 : (Tryz.f4.params.all (Tryz.prog.readableRec ·)) = true := by kernel_rfl
theorem jf7 : ((Rows.eodBeforeRow.knobs == [])) = true := by kernel_rfl
theorem rec_self : Tryz.prog.recurses 4 = true := by
 unfold Program.recurses
 rw [clo_eq, Bool.or_eq_true]
 exact Or.inr (List.any_eq_true.2 ⟨525, of_decide_eq_true (by kernel_rfl), List.any_eq_true.2 ⟨525, of_decide_eq_true (by kernel_rfl), by kernel_rfl⟩⟩)
theorem jf11 : ((Rows.eodBeforeRow.recurses == Tryz.prog.recurses 4)) = true := by rw [rec_self]; kernel_rfl
theorem jf15 : ((Rows.eodBeforeRow.mapsOut == Tryz.prog.mapsAmong Tryz.f4.resultTypes.toList)) = true := by kernel_rfl
theorem jf19 : (Tryz.f4.resultTypes.all (fun t => Tryz.prog.readableRec t && decide (t < Tryz.prog.types.size))) = true := by kernel_rfl
theorem jf23 : (Rows.eodBeforeRow.shortTexts.isNone) = true := by kernel_rfl
theorem jf27 : ((Tryz.prog.make == some Rows.eodBeforeRow.make)) = true := by kernel_rfl
theorem jf31 : (Rows.eodBeforeRow.veiledFits Tryz.prog Tryz.f4.params.toList (Tryz.f4.params.toList ++ Rows.eodBeforeSpec.plain.varTypes Tryz.prog ++ Tryz.f4.resultTypes.toList)) = true := by kernel_rfl
end Go.Proofs.YtpjacfiddgajfaaGreatDoor

