/- Part 32 of the proof: CbDo25Hh. -/
import Derived.Test.YtcihddahcplehaaGreatDoorRows
import Derived.Lay
import Derived.KernelRfl
open Go
namespace Go.Proofs.YtcihddahcplehaaGreatDoor
set_option maxRecDepth 100000
theorem qHv (os:Os) (args:Array Value):(((World.laidAll Tryz.prog os Rows.limitHoldsRow.laid).forCall (fun _ _=>0) ⟨#[],args,[]⟩).heap.toList.drop Tryz.prog.globals.size).take ((begin Tryz.prog (fun _ _=>0) default).world.heap.size-Tryz.prog.globals.size)=(begin Tryz.prog (fun _ _=>0) default).world.heap.toList.drop Tryz.prog.globals.size:=by kernel_rfl
end Go.Proofs.YtcihddahcplehaaGreatDoor

