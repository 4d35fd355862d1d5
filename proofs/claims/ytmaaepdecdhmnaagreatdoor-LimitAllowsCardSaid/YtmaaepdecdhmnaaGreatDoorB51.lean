/- Part 51 of the proof. -/
import Derived.Test.YtmaaepdecdhmnaaGreatDoorRows
import Derived.SevenTiedAt
import Derived.KernelRfl
section
open Go
namespace Go.Proofs.YtmaaepdecdhmnaaGreatDoor
set_option maxRecDepth 100000
theorem qzF:Tryz.prog.funcs.any Func.goes=false:=by kernel_rfl
theorem qzE:(Tryz.prog.unfollowed 3&&Tryz.prog.funcs.any Func.goes)=false:=by rw[qzF,Bool.and_false]
end Go.Proofs.YtmaaepdecdhmnaaGreatDoor
end
