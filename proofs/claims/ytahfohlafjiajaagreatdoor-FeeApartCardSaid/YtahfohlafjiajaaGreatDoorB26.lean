/- Part 26 of the proof: CbDo28Aa. -/
import Derived.Test.YtahfohlafjiajaaGreatDoorRows
import Derived.Lay
import Derived.KernelRfl
open Go
namespace Go.Proofs.YtahfohlafjiajaaGreatDoor
set_option maxRecDepth 100000
theorem qy7 (os:Os):(World.holding Tryz.prog os ⟨#[],#[],[]⟩).layFits Tryz.prog Rows.feeApartRow.laid []=true:=by kernel_rfl
end Go.Proofs.YtahfohlafjiajaaGreatDoor

