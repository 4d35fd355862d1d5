/- Part 50 of the proof: CbCa28Dg. -/
import Derived.Test.YtahfohlafjiajaaGreatDoorRows
import Derived.SevenTiedAt
import Derived.KernelRfl
open Go
namespace Go.Proofs.YtahfohlafjiajaaGreatDoor
set_option maxRecDepth 100000
theorem qyx:Tryz.prog.funcs.any Func.goes=false:=by kernel_rfl
theorem qyw:(Tryz.prog.unfollowed 3&&Tryz.prog.funcs.any Func.goes)=false:=by rw[qyx,Bool.and_false]
end Go.Proofs.YtahfohlafjiajaaGreatDoor

