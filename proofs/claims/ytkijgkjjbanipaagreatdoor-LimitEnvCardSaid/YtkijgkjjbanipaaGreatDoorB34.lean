/- Part 34 of the proof: CbTi25Ed. -/
import Derived.Test.YtkijgkjjbanipaaGreatDoorRows
import Derived.LaidByTextLater
import Derived.SevenTiedAt
import Derived.KernelRfl
import Derived.Test.YtkijgkjjbanipaaGreatDoorB33
set_option linter.all false
open Go
namespace Go.Proofs.YtkijgkjjbanipaaGreatDoor
set_option maxRecDepth 100000
theorem t2k : ∀ os tape, (DataW.laidRun Tryz.prog (varsWorld Tryz.prog 400 (varsId Tryz.prog) os tape).memory 8 (Rows.limitEnvRow.laid.map (·.1))).map (fun x => Go.Sim.distB 0 (x.2.map Go.Sim.mkey)) = some true := fun _ _ => by kernel_rfl
end Go.Proofs.YtkijgkjjbanipaaGreatDoor

