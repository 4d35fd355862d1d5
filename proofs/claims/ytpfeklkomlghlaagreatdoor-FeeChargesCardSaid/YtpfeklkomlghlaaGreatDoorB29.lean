/- Part 29 of the proof. -/
import Derived.Test.YtpfeklkomlghlaaGreatDoorRows
import Derived.Lay
set_option linter.all false
section
open Go
namespace Go.Proofs.YtpfeklkomlghlaaGreatDoor
set_option maxRecDepth 100000
def qR9(os:Os):(World.holding Tryz.prog os ⟨#[],#[],[]⟩).layFits Tryz.prog Rows.feeChargesRow.laid []=true:=by kernel_rfl
