/- Part 51 of the proof: CbCa25Hf. -/
import Derived.Test.YtcihddahcplehaaGreatDoorB35
import Derived.Test.YtcihddahcplehaaGreatDoorRows
import Derived.SevenTiedAt
import Derived.KernelRfl
open Go
namespace Go.Proofs.YtcihddahcplehaaGreatDoor
set_option maxRecDepth 100000
theorem qIZ:(clo.any fun g=>(Tryz.prog.funcs[g]?).any Func.goes)=false:=by kernel_rfl
end Go.Proofs.YtcihddahcplehaaGreatDoor

