/- Part 38 of the proof: CbCa25Eb. -/
import Derived.Test.YtkijgkjjbanipaaGreatDoorRows
import Derived.SevenTiedAt
import Derived.KernelRfl
set_option linter.all false
open Go
namespace Go.Proofs.YtkijgkjjbanipaaGreatDoor
set_option maxRecDepth 100000
theorem cmain : Tryz.prog.mainIs = some (true, "c62aa00ada3ed0925493202bea42f1f82663839e79e165ad5a9d72d28d55857f".toList) := by kernel_rfl
end Go.Proofs.YtkijgkjjbanipaaGreatDoor

