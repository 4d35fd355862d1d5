/- Part 25 of the proof. -/
import Derived.Test.YtmaaepdecdhmnaaGreatDoorB19
import Derived.Test.YtmaaepdecdhmnaaGreatDoorB16
import Derived.KernelRfl
namespace Go.Sim
set_option maxRecDepth 100000
set_option maxHeartbeats 8000000
theorem qzg:TA25Lm2.val 1091 []=some (.d (.b true),false):=qhy 400 (by kernel_rfl)
end Go.Sim
