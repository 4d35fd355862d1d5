/- Part 50 of the proof: CbCa25Hd. -/
import Derived.Test.YtcihddahcplehaaGreatDoorRows
import Derived.SevenTiedAt
import Derived.KernelRfl
open Go
namespace Go.Proofs.YtcihddahcplehaaGreatDoor
set_option maxRecDepth 100000
theorem qzJ:([33,35,37].all fun u => !Tryz.prog.wantsStandIn u)=true:=by kernel_rfl
end Go.Proofs.YtcihddahcplehaaGreatDoor

