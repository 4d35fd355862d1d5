/- Part 26 of the proof: CbDo25Fa. -/
import Derived.Test.YtkijgkjjbanipaaGreatDoorRows
import Derived.Lay
import Derived.KernelRfl
open Go
namespace Go.Proofs.YtkijgkjjbanipaaGreatDoor
set_option maxRecDepth 100000
theorem qA5 (os:Os):(World.holding Tryz.prog os ⟨#[],#[],[]⟩).layFits Tryz.prog Rows.limitFreesRow.laid []=true:=by kernel_rfl
end Go.Proofs.YtkijgkjjbanipaaGreatDoor

