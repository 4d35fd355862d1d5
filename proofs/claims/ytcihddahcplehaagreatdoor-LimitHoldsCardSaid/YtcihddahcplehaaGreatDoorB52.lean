/- Part 52 of the proof: CbCa25Hg. -/
import Derived.Test.YtcihddahcplehaaGreatDoorRows
import Derived.SevenTiedAt
import Derived.KernelRfl
open Go
namespace Go.Proofs.YtcihddahcplehaaGreatDoor
set_option maxRecDepth 100000
theorem qJ2:Tryz.prog.funcs.any Func.goes=false:=by kernel_rfl
theorem qHj:(Tryz.prog.unfollowed 3&&Tryz.prog.funcs.any Func.goes)=false:=by rw[qJ2,Bool.and_false]
end Go.Proofs.YtcihddahcplehaaGreatDoor

