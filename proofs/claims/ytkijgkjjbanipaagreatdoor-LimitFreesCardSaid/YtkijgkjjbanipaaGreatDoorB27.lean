/- Part 27 of the proof: CbDo25Fb. -/
import Derived.Test.YtkijgkjjbanipaaGreatDoorRows
import Derived.Lay
import Derived.KernelRfl
open Go
namespace Go.Proofs.YtkijgkjjbanipaaGreatDoor
set_option maxRecDepth 100000
theorem qC0 (os:Os):(World.holding Tryz.prog os ⟨#[],#[],[]⟩).layIfaces Tryz.prog Rows.limitFreesRow.laid (World.laidAll Tryz.prog os Rows.limitFreesRow.laid)=true:=by kernel_rfl
end Go.Proofs.YtkijgkjjbanipaaGreatDoor

