/- Part 24 of the proof: Cb28D. -/
import Derived.Test.YtahfohlafjiajaaGreatDoorB19
import Derived.Test.YtahfohlafjiajaaGreatDoorB16
import Derived.KernelRfl
namespace Go.Sim
set_option maxRecDepth 1000000
theorem qya:TA28Dm2.val 1123 []=some (.d (.b true),false):=qho 400 (by kernel_rfl)
end Go.Sim

