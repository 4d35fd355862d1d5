/- Part 28 of the proof: CbDo25Fc. -/
import Derived.Test.YtkijgkjjbanipaaGreatDoorRows
import Derived.Lay
import Derived.KernelRfl
open Go
namespace Go.Proofs.YtkijgkjjbanipaaGreatDoor
set_option maxRecDepth 100000
theorem qwa (os:Os) (args:Array Value):((World.laidAll Tryz.prog os Rows.limitFreesRow.laid).forCall (fun _ _=>0) ⟨#[],args,[]⟩).variablesZipB Tryz.prog=true:=by kernel_rfl
end Go.Proofs.YtkijgkjjbanipaaGreatDoor

