/- Part 21 of the proof: CbDo51Lc. -/
import Derived.Test.YtehcjdaedhmkdaaGreatDoorRows
import Derived.Lay
import Derived.KernelRfl
open Go
namespace Go.Proofs.YtehcjdaedhmkdaaGreatDoor
set_option maxRecDepth 100000
theorem wzip (os : Os) (args : Array Value) : ((World.laidAll Tryz.prog os Rows.bankLoansRow.laid).forCall (fun _ _ => 0) ⟨#[], args, []⟩).variablesZipB Tryz.prog = true := by kernel_rfl
end Go.Proofs.YtehcjdaedhmkdaaGreatDoor

