/- Part 31 of the proof: CbDo25Hc. -/
import Derived.Test.YtcihddahcplehaaGreatDoorRows
import Derived.Lay
import Derived.KernelRfl
open Go
namespace Go.Proofs.YtcihddahcplehaaGreatDoor
set_option maxRecDepth 100000
theorem qJ7 (os:Os) (args:Array Value):((World.laidAll Tryz.prog os Rows.limitHoldsRow.laid).forCall (fun _ _=>0) ⟨#[],args,[]⟩).variablesZipB Tryz.prog=true:=by kernel_rfl
end Go.Proofs.YtcihddahcplehaaGreatDoor

