/- Part 29 of the proof: CbDo25Ha. -/
import Derived.Test.YtcihddahcplehaaGreatDoorRows
import Derived.Lay
import Derived.KernelRfl
open Go
namespace Go.Proofs.YtcihddahcplehaaGreatDoor
set_option maxRecDepth 100000
theorem qHa (os:Os):(World.holding Tryz.prog os ⟨#[],#[],[]⟩).layFits Tryz.prog Rows.limitHoldsRow.laid []=true:=by kernel_rfl
end Go.Proofs.YtcihddahcplehaaGreatDoor

