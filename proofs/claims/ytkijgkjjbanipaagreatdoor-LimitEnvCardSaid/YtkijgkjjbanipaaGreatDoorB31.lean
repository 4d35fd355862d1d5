/- Part 31 of the proof: CbTi25Eb. -/
import Derived.Test.YtkijgkjjbanipaaGreatDoorRows
import Derived.LaidByTextLater
import Derived.SevenTiedAt
import Derived.KernelRfl
set_option linter.all false
open Go
namespace Go.Proofs.YtkijgkjjbanipaaGreatDoor
set_option maxRecDepth 100000
theorem tn : varsNamedLaterB Tryz.prog (varsId Tryz.prog) Rows.limitEnvRow.laid = true := by kernel_rfl
theorem td : ∀ os tape, varsDone Tryz.prog 400 (varsId Tryz.prog) os tape = true := fun _ _ => by kernel_rfl
end Go.Proofs.YtkijgkjjbanipaaGreatDoor

