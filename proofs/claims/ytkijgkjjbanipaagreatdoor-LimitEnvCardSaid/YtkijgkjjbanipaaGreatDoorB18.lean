/- Part 18 of the proof: CbDo25Ea. -/
import Derived.Test.YtkijgkjjbanipaaGreatDoorRows
import Derived.Lay
import Derived.KernelRfl
set_option linter.all false
open Go
namespace Go.Proofs.YtkijgkjjbanipaaGreatDoor
set_option maxRecDepth 100000
theorem wfits (os : Os) : (World.holding Tryz.prog os ⟨#[], #[], []⟩).layFits Tryz.prog Rows.limitEnvRow.laid [] = true := by kernel_rfl
end Go.Proofs.YtkijgkjjbanipaaGreatDoor

