/- Part 29 of the proof: CbDo28Eb. -/
import Derived.Test.YtahfohlafjiajaaGreatDoorRows
import Derived.Lay
import Derived.KernelRfl
open Go
namespace Go.Proofs.YtahfohlafjiajaaGreatDoor
set_option maxRecDepth 100000
theorem qKj (os:Os):(World.holding Tryz.prog os ⟨#[],#[],[]⟩).layIfaces Tryz.prog Rows.feeEntriesRow.laid (World.laidAll Tryz.prog os Rows.feeEntriesRow.laid)=true:=by kernel_rfl
end Go.Proofs.YtahfohlafjiajaaGreatDoor

