/- Part 50 of the proof: CbCa28Eg. -/
import Derived.Test.YtahfohlafjiajaaGreatDoorRows
import Derived.SevenTiedAt
import Derived.KernelRfl
open Go
namespace Go.Proofs.YtahfohlafjiajaaGreatDoor
set_option maxRecDepth 100000
theorem qyV:Tryz.prog.funcs.any Func.goes=false:=by kernel_rfl
theorem qyU:(Tryz.prog.unfollowed 4&&Tryz.prog.funcs.any Func.goes)=false:=by rw[qyV,Bool.and_false]
end Go.Proofs.YtahfohlafjiajaaGreatDoor

