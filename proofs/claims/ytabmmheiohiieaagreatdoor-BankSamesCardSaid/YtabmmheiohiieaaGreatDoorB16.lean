/- Part 16 of the proof: CbA51s. -/
import Derived.Test.YtabmmheiohiieaaGreatDoorB12
import Derived.Test.YtabmmheiohiieaaGreatDoorB15
import Derived.KernelRfl
namespace Go.Sim
set_option maxRecDepth 1000000
theorem awake : TA51s.val 78 [] = some (.d (.b true), false) := val_run 400 (by kernel_rfl)
end Go.Sim

