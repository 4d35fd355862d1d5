/- Part 40 of the proof: CbCa25Ae. -/
import Derived.Test.YtkijgkjjbanipaaGreatDoorRows
import Derived.SevenTiedAt
import Derived.KernelRfl
open Go
namespace Go.Proofs.YtkijgkjjbanipaaGreatDoor
set_option maxRecDepth 100000
theorem cgoes : false = Rows.limitAvailableRow.goesBy Tryz.prog := by kernel_rfl
end Go.Proofs.YtkijgkjjbanipaaGreatDoor

