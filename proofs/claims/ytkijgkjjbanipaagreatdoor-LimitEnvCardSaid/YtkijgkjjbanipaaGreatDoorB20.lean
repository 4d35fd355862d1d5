/- Part 20 of the proof: CbDo25Ec. -/
import Derived.Test.YtkijgkjjbanipaaGreatDoorRows
import Derived.Lay
import Derived.KernelRfl
set_option linter.all false
open Go
namespace Go.Proofs.YtkijgkjjbanipaaGreatDoor
set_option maxRecDepth 100000
theorem wzip (os : Os) (args : Array Value) : ((World.laidAll Tryz.prog os Rows.limitEnvRow.laid).forCall (fun _ _ => 0) ⟨#[], args, []⟩).variablesZipB Tryz.prog = true := by kernel_rfl
end Go.Proofs.YtkijgkjjbanipaaGreatDoor

