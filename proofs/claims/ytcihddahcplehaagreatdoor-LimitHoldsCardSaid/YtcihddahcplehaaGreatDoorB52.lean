/- Part 52 of the proof: CbCa25Hg. -/
import Derived.Test.YtcihddahcplehaaGreatDoorRows
import Derived.SevenTiedAt
import Derived.KernelRfl
open Go
namespace Go.Proofs.YtcihddahcplehaaGreatDoor
set_option maxRecDepth 100000
theorem qFW:Tryz.prog.funcs.any Func.goes=false:=by kernel_rfl
theorem qJa:(Tryz.prog.unfollowed 3&&Tryz.prog.funcs.any Func.goes)=false:=by rw[qFW,Bool.and_false]
end Go.Proofs.YtcihddahcplehaaGreatDoor

