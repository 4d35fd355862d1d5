/- Part 47 of the proof: CbCa28Ac. -/
import Derived.Test.YtahfohlafjiajaaGreatDoorRows
import Derived.SevenTiedAt
import Derived.KernelRfl
open Go
namespace Go.Proofs.YtahfohlafjiajaaGreatDoor
set_option maxRecDepth 100000
theorem qEz:true=Tryz.prog.looks []:=by kernel_rfl
end Go.Proofs.YtahfohlafjiajaaGreatDoor

