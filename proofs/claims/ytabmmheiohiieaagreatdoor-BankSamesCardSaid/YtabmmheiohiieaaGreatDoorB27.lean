/- Part 27 of the proof: CbJf51sd. -/
import Derived.Test.YtabmmheiohiieaaGreatDoorRows
import Derived.JoinedOf
import Derived.KernelRfl
open Go
namespace Go.Proofs.YtabmmheiohiieaaGreatDoor
set_option maxRecDepth 100000
theorem jf3 : (Tryz.f3.params.all (Tryz.prog.readableRec ·)) = true := by kernel_rfl
theorem jf7 : ((Rows.bankSamesRow.knobs == [])) = true := by kernel_rfl
theorem jf11 : ((Rows.bankSamesRow.recurses == Tryz.prog.recurses 3)) = true := by kernel_rfl
theorem jf15 : ((Rows.bankSamesRow.mapsOut == Tryz.prog.mapsAmong Tryz.f3.resultTypes.toList)) = true := by kernel_rfl
theorem jf19 : (Tryz.f3.resultTypes.all (fun t => Tryz.prog.readableRec t && decide (t < Tryz.prog.types.size))) = true := by kernel_rfl
theorem jf23 : (Rows.bankSamesRow.shortTexts.isNone) = true := by kernel_rfl
theorem jf27 : ((Tryz.prog.make == some Rows.bankSamesRow.make)) = true := by kernel_rfl
theorem jf31 : (Rows.bankSamesRow.veiledFits Tryz.prog Tryz.f3.params.toList (Tryz.f3.params.toList ++ Rows.bankSamesSpec.plain.varTypes Tryz.prog ++ Tryz.f3.resultTypes.toList)) = true := by kernel_rfl
end Go.Proofs.YtabmmheiohiieaaGreatDoor

