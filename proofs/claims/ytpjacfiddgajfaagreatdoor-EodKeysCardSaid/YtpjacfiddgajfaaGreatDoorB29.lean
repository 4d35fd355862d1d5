/- Part 29 of the proof: CbJf52b. -/
import Derived.Test.YtpjacfiddgajfaaGreatDoorRows
import Derived.Test.YtpjacfiddgajfaaGreatDoorB28
import Derived.JoinedOf
import Derived.KernelRfl
open Go
namespace Go.Proofs.YtpjacfiddgajfaaGreatDoor
set_option maxRecDepth 100000
theorem jf5 : ((Rows.eodKeysRow.stops == [])) = true := by kernel_rfl
theorem jf9 : ((Rows.eodKeysRow.inPlace == Tryz.prog.inPlace 3)) = true := by unfold Program.inPlace; rw [clo_eq]; kernel_rfl
theorem jf13 : ((Rows.eodKeysRow.maps == (Tryz.f3.params.toList ++ Rows.eodKeysSpec.plain.varTypes Tryz.prog).any (Tryz.prog.mapsRec ·))) = true := by kernel_rfl
theorem jf17 : ((Rows.eodKeysRow.wideKeys == (Tryz.f3.params.toList ++ Rows.eodKeysSpec.plain.varTypes Tryz.prog ++ Tryz.f3.resultTypes.toList).any (Tryz.prog.wideKeysFrom ·))) = true := by kernel_rfl
theorem jf21 : ((Rows.eodKeysRow.loopsOut == Tryz.f3.resultTypes.toList.any (Tryz.prog.loopsFrom ·))) = true := by kernel_rfl
theorem jf25 : (Tryz.prog.mayEnter) = true := by kernel_rfl
theorem jf29 : ((Rows.eodKeysRow.pinned == Rows.eodKeysRow.pinnedBy)) = true := by kernel_rfl
end Go.Proofs.YtpjacfiddgajfaaGreatDoor

