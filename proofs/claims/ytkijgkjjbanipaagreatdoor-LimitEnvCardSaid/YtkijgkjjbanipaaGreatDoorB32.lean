/- Part 32 of the proof: CbTi25Ec. -/
import Derived.Test.YtkijgkjjbanipaaGreatDoorRows
import Derived.LaidByTextLater
import Derived.SevenTiedAt
import Derived.KernelRfl
set_option linter.all false
open Go
namespace Go.Proofs.YtkijgkjjbanipaaGreatDoor
set_option maxRecDepth 100000
theorem t1 : ∀ os tape, (DataW.laidRun Tryz.prog (varsWorld Tryz.prog 400 (varsId Tryz.prog) os tape).memory 8 (Rows.limitEnvRow.laid.map (·.1))).map (·.1) = some Rows.limitEnvRow.laid := fun _ _ => by kernel_rfl
end Go.Proofs.YtkijgkjjbanipaaGreatDoor

