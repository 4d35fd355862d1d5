/- Part 24 of the proof: Cb52Y. -/
import Derived.Test.YtpjacfiddgajfaaGreatDoorYB18
import Derived.Test.YtpjacfiddgajfaaGreatDoorYB15
import Derived.KernelRfl
namespace Go.Sim
set_option maxRecDepth 1000000
theorem awake : TA52Ym2.val 1010 [] = some (.d (.b true), false) := val_run 400 (by kernel_rfl)
end Go.Sim

