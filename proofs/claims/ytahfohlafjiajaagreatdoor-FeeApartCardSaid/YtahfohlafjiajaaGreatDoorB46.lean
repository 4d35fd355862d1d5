/- Part 46 of the proof: CbCa28Ab. -/
import Derived.Test.YtahfohlafjiajaaGreatDoorRows
import Derived.SevenTiedAt
import Derived.KernelRfl
open Go
namespace Go.Proofs.YtahfohlafjiajaaGreatDoor
set_option maxRecDepth 100000
theorem qxa:Tryz.prog.mainIs=some (true, "a103b0d8de94d42e788c28a249f6b6776fb42f669c3096ea2c81aabe96aa899b".toList):=by kernel_rfl
end Go.Proofs.YtahfohlafjiajaaGreatDoor

