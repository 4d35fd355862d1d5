/- Part 48 of the proof: CbCa28Eb, CbCa28Ec, CbCa28Ed. -/
import Derived.Test.YtahfohlafjiajaaGreatDoorRows
import Derived.SevenTiedAt
import Derived.KernelRfl
section
open Go
namespace Go.Proofs.YtahfohlafjiajaaGreatDoor
set_option maxRecDepth 100000
theorem qzc:Tryz.prog.mainIs=some (true, "a103b0d8de94d42e788c28a249f6b6776fb42f669c3096ea2c81aabe96aa899b".toList):=by kernel_rfl
end Go.Proofs.YtahfohlafjiajaaGreatDoor
end
section
open Go
namespace Go.Proofs.YtahfohlafjiajaaGreatDoor
set_option maxRecDepth 100000
theorem qy9:true=Tryz.prog.looks []:=by kernel_rfl
end Go.Proofs.YtahfohlafjiajaaGreatDoor
end
section
open Go
namespace Go.Proofs.YtahfohlafjiajaaGreatDoor
set_option maxRecDepth 100000
theorem qzk:([33,35,38].all fun u => !Tryz.prog.wantsStandIn u)=true:=by kernel_rfl
end Go.Proofs.YtahfohlafjiajaaGreatDoor
end
