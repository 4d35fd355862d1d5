/- Part 39 of the proof: CbCa25Ec. -/
import Derived.Test.YtkijgkjjbanipaaGreatDoorRows
import Derived.SevenTiedAt
import Derived.KernelRfl
set_option linter.all false
open Go
namespace Go.Proofs.YtkijgkjjbanipaaGreatDoor
set_option maxRecDepth 100000
theorem clooks : true = Tryz.prog.looks [] := by kernel_rfl
end Go.Proofs.YtkijgkjjbanipaaGreatDoor

