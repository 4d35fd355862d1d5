/- Part 13 of the proof: Cb29E. -/
import Derived.Test.YtakfofnggifenaaGreatDoorB11
import Derived.Test.YtakfofnggifenaaGreatDoorB10
import Derived.KernelRfl
namespace Go.Sim
set_option maxRecDepth 1000000
theorem awake : TA29Em1.val 1106 [] = some (.d (.b true), false) := val_run 600 (by kernel_rfl)
end Go.Sim

