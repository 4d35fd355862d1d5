/- Part 15 of the proof: Cb25E. -/
import Derived.Test.YtkijgkjjbanipaaGreatDoorB12
import Derived.Test.YtkijgkjjbanipaaGreatDoorB10
import Derived.KernelRfl
set_option linter.all false
namespace Go.Sim
set_option maxRecDepth 1000000
theorem awake : TA25Em2.val 1091 [] = some (.d (.b true), false) := val_run 400 (by kernel_rfl)
end Go.Sim

