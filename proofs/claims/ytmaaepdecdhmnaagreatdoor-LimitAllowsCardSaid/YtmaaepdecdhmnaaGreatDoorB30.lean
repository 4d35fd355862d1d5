/- Part 30 of the proof. -/
import Derived.Test.YtmaaepdecdhmnaaGreatDoorRows
import Derived.Lay
import Derived.KernelRfl
section
open Go
namespace Go.Proofs.YtmaaepdecdhmnaaGreatDoor
set_option maxRecDepth 100000
theorem qLZ(os:Os):(World.holding Tryz.prog os ⟨#[],#[],[]⟩).layIfaces Tryz.prog Rows.limitAllowsRow.laid (World.laidAll Tryz.prog os Rows.limitAllowsRow.laid)=true:=by kernel_rfl
end Go.Proofs.YtmaaepdecdhmnaaGreatDoor
end
