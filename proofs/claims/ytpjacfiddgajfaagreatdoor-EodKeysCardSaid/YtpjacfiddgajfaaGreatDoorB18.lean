/- Part 18 of the proof: CbA52. -/
import Derived.Test.YtpjacfiddgajfaaGreatDoorB15
import Derived.Test.YtpjacfiddgajfaaGreatDoorB13
import Derived.KernelRfl
namespace Go.Sim
set_option maxRecDepth 1000000
theorem awake : TA52m1.val 1010 [] = some (.d (.b true), false) := val_run 400 (by kernel_rfl)
end Go.Sim

