/- Part 49 of the proof: CbCa28Ef. -/
import Derived.Test.YtahfohlafjiajaaGreatDoorEB34
import Derived.Test.YtahfohlafjiajaaGreatDoorRows
import Derived.SevenTiedAt
import Derived.KernelRfl
open Go
namespace Go.Proofs.YtahfohlafjiajaaGreatDoor
set_option maxRecDepth 100000
theorem qyT:(clo.any fun g=>(Tryz.prog.funcs[g]?).any Func.goes)=false:=by kernel_rfl
end Go.Proofs.YtahfohlafjiajaaGreatDoor

