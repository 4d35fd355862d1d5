/- Part 22 of the proof: Cb28A. -/
import Derived.Test.YtahfohlafjiajaaGreatDoorB17
import Derived.Test.YtahfohlafjiajaaGreatDoorB14
import Derived.KernelRfl
namespace Go.Sim
set_option maxRecDepth 1000000
theorem qyZ:TA28Am2.val 1123 []=some (.d (.b true),false):=qig 400 (by kernel_rfl)
end Go.Sim

