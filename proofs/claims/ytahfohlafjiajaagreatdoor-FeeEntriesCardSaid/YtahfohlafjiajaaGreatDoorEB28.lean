/- Part 28 of the proof: CbDo28Ea. -/
import Derived.Test.YtahfohlafjiajaaGreatDoorRows
import Derived.Lay
import Derived.KernelRfl
open Go
namespace Go.Proofs.YtahfohlafjiajaaGreatDoor
set_option maxRecDepth 100000
theorem qKi (os:Os):(World.holding Tryz.prog os ⟨#[],#[],[]⟩).layFits Tryz.prog Rows.feeEntriesRow.laid []=true:=by kernel_rfl
end Go.Proofs.YtahfohlafjiajaaGreatDoor

