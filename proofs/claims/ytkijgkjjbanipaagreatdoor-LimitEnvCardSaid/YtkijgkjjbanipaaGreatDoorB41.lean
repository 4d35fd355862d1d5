/- Part 41 of the proof: CbCa25Ee. -/
import Derived.Test.YtkijgkjjbanipaaGreatDoorRows
import Derived.SevenTiedAt
import Derived.KernelRfl
set_option linter.all false
open Go
namespace Go.Proofs.YtkijgkjjbanipaaGreatDoor
set_option maxRecDepth 100000
theorem cgoes : false = Rows.limitEnvRow.goesBy Tryz.prog := by kernel_rfl
end Go.Proofs.YtkijgkjjbanipaaGreatDoor

