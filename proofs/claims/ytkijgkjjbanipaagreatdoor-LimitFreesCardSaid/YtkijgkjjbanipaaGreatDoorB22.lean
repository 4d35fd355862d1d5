/- Part 22 of the proof: Cb25F. -/
import Derived.Test.YtkijgkjjbanipaaGreatDoorB17
import Derived.Test.YtkijgkjjbanipaaGreatDoorB14
import Derived.KernelRfl
namespace Go.Sim
set_option maxRecDepth 1000000
theorem qEa:TA25Fm2.val 1091 []=some (.d (.b true),false):=qhU 400 (by kernel_rfl)
end Go.Sim

