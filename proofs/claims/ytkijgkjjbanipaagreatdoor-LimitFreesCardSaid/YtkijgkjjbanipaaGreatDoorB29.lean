/- Part 29 of the proof: CbDo25Fh. -/
import Derived.Test.YtkijgkjjbanipaaGreatDoorRows
import Derived.Lay
import Derived.KernelRfl
open Go
namespace Go.Proofs.YtkijgkjjbanipaaGreatDoor
set_option maxRecDepth 100000
theorem qwi (os:Os) (args:Array Value):(((World.laidAll Tryz.prog os Rows.limitFreesRow.laid).forCall (fun _ _=>0) ⟨#[],args,[]⟩).heap.toList.drop Tryz.prog.globals.size).take ((begin Tryz.prog (fun _ _=>0) default).world.heap.size-Tryz.prog.globals.size)=(begin Tryz.prog (fun _ _=>0) default).world.heap.toList.drop Tryz.prog.globals.size:=by kernel_rfl
end Go.Proofs.YtkijgkjjbanipaaGreatDoor

