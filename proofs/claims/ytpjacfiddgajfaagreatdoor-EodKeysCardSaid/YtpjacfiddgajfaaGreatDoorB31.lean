/- Part 31 of the proof: CbJf52d. -/
import Derived.Test.YtpjacfiddgajfaaGreatDoorRows
import Derived.JoinedOf
import Derived.KernelRfl
open Go
namespace Go.Proofs.YtpjacfiddgajfaaGreatDoor
set_option maxRecDepth 100000
theorem jf3 : (Tryz.f3.params.all (Tryz.prog.readableRec ·)) = true := by kernel_rfl
theorem jf7 : ((Rows.eodKeysRow.knobs == [])) = true := by kernel_rfl
theorem jf11 : ((Rows.eodKeysRow.recurses == Tryz.prog.recurses 3)) = true := by kernel_rfl
theorem jf15 : ((Rows.eodKeysRow.mapsOut == Tryz.prog.mapsAmong Tryz.f3.resultTypes.toList)) = true := by kernel_rfl
theorem jf19 : (Tryz.f3.resultTypes.all (fun t => Tryz.prog.readableRec t && decide (t < Tryz.prog.types.size))) = true := by kernel_rfl
theorem jf23 : (Rows.eodKeysRow.shortTexts.isNone) = true := by kernel_rfl
theorem jf27 : ((Tryz.prog.make == some Rows.eodKeysRow.make)) = true := by kernel_rfl
theorem jf31 : (Rows.eodKeysRow.veiledFits Tryz.prog Tryz.f3.params.toList (Tryz.f3.params.toList ++ Rows.eodKeysSpec.plain.varTypes Tryz.prog ++ Tryz.f3.resultTypes.toList)) = true := by kernel_rfl
end Go.Proofs.YtpjacfiddgajfaaGreatDoor

