/- Part 49 of the proof: CbCa52Yc. -/
import Derived.Test.YtpjacfiddgajfaaGreatDoorRows
import Derived.SevenTiedAt
import Derived.KernelRfl
open Go
namespace Go.Proofs.YtpjacfiddgajfaaGreatDoor
set_option maxRecDepth 100000
theorem clooks : true = Tryz.prog.looks [] := by kernel_rfl
end Go.Proofs.YtpjacfiddgajfaaGreatDoor

