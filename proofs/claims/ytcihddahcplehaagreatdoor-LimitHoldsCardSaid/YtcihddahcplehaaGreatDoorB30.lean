/- Part 30 of the proof: CbDo25Hb. -/
import Derived.Test.YtcihddahcplehaaGreatDoorRows
import Derived.Lay
import Derived.KernelRfl
open Go
namespace Go.Proofs.YtcihddahcplehaaGreatDoor
set_option maxRecDepth 100000
theorem qDI (os:Os):(World.holding Tryz.prog os ⟨#[],#[],[]⟩).layIfaces Tryz.prog Rows.limitHoldsRow.laid (World.laidAll Tryz.prog os Rows.limitHoldsRow.laid)=true:=by kernel_rfl
end Go.Proofs.YtcihddahcplehaaGreatDoor

