/- Part 14 of the proof: Cb25A. -/
import Derived.Test.YtkijgkjjbanipaaGreatDoorB12
import Derived.Test.YtkijgkjjbanipaaGreatDoorB10
import Derived.KernelRfl
namespace Go.Sim
set_option maxRecDepth 1000000
theorem awake : TA25Am2.val 1091 [] = some (.d (.b true), false) := val_run 400 (by kernel_rfl)
end Go.Sim

