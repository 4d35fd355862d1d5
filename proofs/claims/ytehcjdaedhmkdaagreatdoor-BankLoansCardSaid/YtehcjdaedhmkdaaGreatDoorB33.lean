/- Part 33 of the proof: CbTi51Lc. -/
import Derived.Test.YtehcjdaedhmkdaaGreatDoorRows
import Derived.LaidByTextLater
import Derived.SevenTiedAt
import Derived.KernelRfl
open Go
namespace Go.Proofs.YtehcjdaedhmkdaaGreatDoor
set_option maxRecDepth 100000
theorem t1 : ∀ os tape, (DataW.laidRun Tryz.prog (varsWorld Tryz.prog 400 (varsId Tryz.prog) os tape).memory 8 (Rows.bankLoansRow.laid.map (·.1))).map (·.1) = some Rows.bankLoansRow.laid := fun _ _ => by kernel_rfl
end Go.Proofs.YtehcjdaedhmkdaaGreatDoor

