/- Part 24 of the proof: Cb28E. -/
import Derived.Test.YtahfohlafjiajaaGreatDoorEB19
import Derived.Test.YtahfohlafjiajaaGreatDoorEB16
import Derived.KernelRfl
namespace Go.Sim
set_option maxRecDepth 1000000
theorem qyz:TA28Em2.val 1123 []=some (.d (.b true),false):=qhv 400 (by kernel_rfl)
end Go.Sim

