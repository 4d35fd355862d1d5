/- Part 18 of the proof: CbDo29Ec. -/
import Derived.Test.YtakfofnggifenaaGreatDoorRows
import Derived.Lay
import Derived.KernelRfl
open Go
namespace Go.Proofs.YtakfofnggifenaaGreatDoor
set_option maxRecDepth 100000
theorem wzip (os : Os) (args : Array Value) : ((World.laidAll Tryz.prog os Rows.settleEndsRow.laid).forCall (fun _ _ => 0) ⟨#[], args, []⟩).variablesZipB Tryz.prog = true := by kernel_rfl
end Go.Proofs.YtakfofnggifenaaGreatDoor

