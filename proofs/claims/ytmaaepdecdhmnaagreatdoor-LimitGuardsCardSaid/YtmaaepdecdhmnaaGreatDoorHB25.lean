/- Part 25 of the proof. -/
import Derived.Test.YtmaaepdecdhmnaaGreatDoorHB18
set_option linter.all false
namespace Go.Sim
set_option maxRecDepth 100000
set_option maxHeartbeats 8000000
def qEZ:TA25Gm2.val 1091 []=some (.d (.b true),false):=qjY 400 (by kernel_rfl)
