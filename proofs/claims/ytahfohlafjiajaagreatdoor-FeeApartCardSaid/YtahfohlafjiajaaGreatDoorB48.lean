/- Part 48 of the proof: CbCa28Ad. -/
import Derived.Test.YtahfohlafjiajaaGreatDoorRows
import Derived.SevenTiedAt
import Derived.KernelRfl
open Go
namespace Go.Proofs.YtahfohlafjiajaaGreatDoor
set_option maxRecDepth 100000
theorem qBB:([33,35].all fun u => !Tryz.prog.wantsStandIn u)=true:=by kernel_rfl
end Go.Proofs.YtahfohlafjiajaaGreatDoor

