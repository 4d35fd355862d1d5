/- Part 30 of the proof: CbDo28Ec. -/
import Derived.Test.YtahfohlafjiajaaGreatDoorRows
import Derived.Lay
import Derived.KernelRfl
open Go
namespace Go.Proofs.YtahfohlafjiajaaGreatDoor
set_option maxRecDepth 100000
theorem qKn (os:Os) (args:Array Value):((World.laidAll Tryz.prog os Rows.feeEntriesRow.laid).forCall (fun _ _=>0) ⟨#[],args,[]⟩).variablesZipB Tryz.prog=true:=by kernel_rfl
end Go.Proofs.YtahfohlafjiajaaGreatDoor

