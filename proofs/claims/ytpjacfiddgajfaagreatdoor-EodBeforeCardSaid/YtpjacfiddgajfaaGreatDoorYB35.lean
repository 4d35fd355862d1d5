/- Part 35 of the proof: CbJf52Yb. -/
import Derived.Test.YtpjacfiddgajfaaGreatDoorRows
import Derived.Test.YtpjacfiddgajfaaGreatDoorYB34
import Derived.JoinedOf
import Derived.KernelRfl
open Go
namespace Go.Proofs.YtpjacfiddgajfaaGreatDoor
set_option maxRecDepth 100000
theorem jf5 : ((Rows.eodBeforeRow.stops == [])) = true := by kernel_rfl
theorem jf9 : ((Rows.eodBeforeRow.inPlace == Tryz.prog.inPlace 4)) = true := by unfold Program.inPlace; rw [clo_eq]; kernel_rfl
theorem jf13 : ((Rows.eodBeforeRow.maps == (Tryz.f4.params.toList ++ Rows.eodBeforeSpec.plain.varTypes Tryz.prog).any (Tryz.prog.mapsRec ·))) = true := by kernel_rfl
theorem jf17 : ((Rows.eodBeforeRow.wideKeys == (Tryz.f4.params.toList ++ Rows.eodBeforeSpec.plain.varTypes Tryz.prog ++ Tryz.f4.resultTypes.toList).any (Tryz.prog.wideKeysFrom ·))) = true := by kernel_rfl
theorem jf21 : ((Rows.eodBeforeRow.loopsOut == Tryz.f4.resultTypes.toList.any (Tryz.prog.loopsFrom ·))) = true := by kernel_rfl
theorem jf25 : (Tryz.prog.mayEnter) = true := by kernel_rfl
theorem jf29 : ((Rows.eodBeforeRow.pinned == Rows.eodBeforeRow.pinnedBy)) = true := by kernel_rfl
end Go.Proofs.YtpjacfiddgajfaaGreatDoor

