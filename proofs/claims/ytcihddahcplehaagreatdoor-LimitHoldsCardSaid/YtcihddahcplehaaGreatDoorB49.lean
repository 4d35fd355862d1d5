/- Part 49 of the proof: CbCa25Hb, CbCa25Hc. -/
import Derived.Test.YtcihddahcplehaaGreatDoorRows
import Derived.SevenTiedAt
import Derived.KernelRfl
section
open Go
namespace Go.Proofs.YtcihddahcplehaaGreatDoor
set_option maxRecDepth 100000
theorem qCd:Tryz.prog.mainIs=some (true, "4c8cf9f661e575d01d405b999e97c95a1db5ba8d2c8c35c8517c78a32c3b987f".toList):=by kernel_rfl
end Go.Proofs.YtcihddahcplehaaGreatDoor
end
section
open Go
namespace Go.Proofs.YtcihddahcplehaaGreatDoor
set_option maxRecDepth 100000
theorem qBo:true=Tryz.prog.looks []:=by kernel_rfl
end Go.Proofs.YtcihddahcplehaaGreatDoor
end
