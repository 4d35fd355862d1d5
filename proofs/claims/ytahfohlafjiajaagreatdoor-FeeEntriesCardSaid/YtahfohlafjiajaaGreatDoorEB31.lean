/- Part 31 of the proof: CbDo28Eh. -/
import Derived.Test.YtahfohlafjiajaaGreatDoorRows
import Derived.Lay
import Derived.KernelRfl
open Go
namespace Go.Proofs.YtahfohlafjiajaaGreatDoor
set_option maxRecDepth 100000
theorem qKk (os:Os) (args:Array Value):(((World.laidAll Tryz.prog os Rows.feeEntriesRow.laid).forCall (fun _ _=>0) ⟨#[],args,[]⟩).heap.toList.drop Tryz.prog.globals.size).take ((begin Tryz.prog (fun _ _=>0) default).world.heap.size-Tryz.prog.globals.size)=(begin Tryz.prog (fun _ _=>0) default).world.heap.toList.drop Tryz.prog.globals.size:=by kernel_rfl
end Go.Proofs.YtahfohlafjiajaaGreatDoor

