/- Part 16 of the proof: Cb51L. -/
import Derived.Test.YtehcjdaedhmkdaaGreatDoorB12
import Derived.Test.YtehcjdaedhmkdaaGreatDoorB15
import Derived.KernelRfl
namespace Go.Sim
set_option maxRecDepth 1000000
theorem awake : TA51L.val 78 [] = some (.d (.b true), false) := val_run 400 (by kernel_rfl)
end Go.Sim

