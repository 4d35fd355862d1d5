/- Part 50 of the proof: CbCa52Yd. -/
import Derived.Test.YtpjacfiddgajfaaGreatDoorRows
import Derived.SevenTiedAt
import Derived.KernelRfl
open Go
namespace Go.Proofs.YtpjacfiddgajfaaGreatDoor
set_option maxRecDepth 100000
theorem cwants : ([56, 23].all fun u => !Tryz.prog.wantsStandIn u) = true := by kernel_rfl
end Go.Proofs.YtpjacfiddgajfaaGreatDoor

