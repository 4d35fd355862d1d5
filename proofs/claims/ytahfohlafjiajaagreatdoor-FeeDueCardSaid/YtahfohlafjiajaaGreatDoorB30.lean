/- Part 30 of the proof: CbDo28Dc. -/
import Derived.Test.YtahfohlafjiajaaGreatDoorRows
import Derived.Lay
import Derived.KernelRfl
open Go
namespace Go.Proofs.YtahfohlafjiajaaGreatDoor
set_option maxRecDepth 100000
theorem qJH (os:Os) (args:Array Value):((World.laidAll Tryz.prog os Rows.feeDueRow.laid).forCall (fun _ _=>0) ⟨#[],args,[]⟩).variablesZipB Tryz.prog=true:=by kernel_rfl
end Go.Proofs.YtahfohlafjiajaaGreatDoor

