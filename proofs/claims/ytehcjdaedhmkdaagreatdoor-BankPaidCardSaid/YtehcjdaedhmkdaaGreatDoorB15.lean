/- Part 15 of the proof: Cb51P. -/
import Derived.Test.YtehcjdaedhmkdaaGreatDoorB11
import Derived.Test.YtehcjdaedhmkdaaGreatDoorB14
import Derived.KernelRfl
namespace Go.Sim
set_option maxRecDepth 1000000
theorem awake : TA51P.val 78 [] = some (.d (.b true), false) := val_run 400 (by kernel_rfl)
end Go.Sim

