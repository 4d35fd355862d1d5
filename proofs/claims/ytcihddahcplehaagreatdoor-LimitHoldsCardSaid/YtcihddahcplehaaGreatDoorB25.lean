/- Part 25 of the proof: Cb25H. -/
import Derived.Test.YtcihddahcplehaaGreatDoorB16
import Derived.Test.YtcihddahcplehaaGreatDoorB13
import Derived.KernelRfl
namespace Go.Sim
set_option maxRecDepth 1000000
theorem qGx:TA25Hm2.val 1091 []=some (.d (.b true),false):=qpV 400 (by kernel_rfl)
end Go.Sim

