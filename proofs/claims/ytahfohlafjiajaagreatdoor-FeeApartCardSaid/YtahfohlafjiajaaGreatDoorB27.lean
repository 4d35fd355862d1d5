/- Part 27 of the proof: CbDo28Ab. -/
import Derived.Test.YtahfohlafjiajaaGreatDoorRows
import Derived.Lay
import Derived.KernelRfl
open Go
namespace Go.Proofs.YtahfohlafjiajaaGreatDoor
set_option maxRecDepth 100000
theorem qwl (os:Os):(World.holding Tryz.prog os ⟨#[],#[],[]⟩).layIfaces Tryz.prog Rows.feeApartRow.laid (World.laidAll Tryz.prog os Rows.feeApartRow.laid)=true:=by kernel_rfl
end Go.Proofs.YtahfohlafjiajaaGreatDoor

