/- Part 25 of the proof. -/
import Derived.Test.YtpfeklkomlghlaaGreatDoorB18
set_option linter.all false
namespace Go.Sim
set_option maxRecDepth 100000
set_option maxHeartbeats 8000000
def qEt:TA28Cm2.val 1123 []=some (.d (.b true),false):=qjL 400 (by kernel_rfl)
