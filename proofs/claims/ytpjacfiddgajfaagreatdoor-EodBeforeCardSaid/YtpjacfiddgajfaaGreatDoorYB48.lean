/- Part 48 of the proof: CbCa52Yb. -/
import Derived.Test.YtpjacfiddgajfaaGreatDoorRows
import Derived.SevenTiedAt
import Derived.KernelRfl
open Go
namespace Go.Proofs.YtpjacfiddgajfaaGreatDoor
set_option maxRecDepth 100000
theorem cmain : Tryz.prog.mainIs = some (true, "a2729952953464776c5a6283b4def01d349ad2adec99608c6f3592a7dec96f99".toList) := by kernel_rfl
end Go.Proofs.YtpjacfiddgajfaaGreatDoor

