/- Part 50 of the proof: CbCa28Ag. -/
import Derived.Test.YtahfohlafjiajaaGreatDoorRows
import Derived.SevenTiedAt
import Derived.KernelRfl
open Go
namespace Go.Proofs.YtahfohlafjiajaaGreatDoor
set_option maxRecDepth 100000
theorem qyO:Tryz.prog.funcs.any Func.goes=false:=by kernel_rfl
theorem qCw:(Tryz.prog.unfollowed 5&&Tryz.prog.funcs.any Func.goes)=false:=by rw[qyO,Bool.and_false]
end Go.Proofs.YtahfohlafjiajaaGreatDoor

