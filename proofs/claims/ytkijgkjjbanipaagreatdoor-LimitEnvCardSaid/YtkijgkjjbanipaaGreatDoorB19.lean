/- Part 19 of the proof: CbDo25Eb. -/
import Derived.Test.YtkijgkjjbanipaaGreatDoorRows
import Derived.Lay
import Derived.KernelRfl
set_option linter.all false
open Go
namespace Go.Proofs.YtkijgkjjbanipaaGreatDoor
set_option maxRecDepth 100000
theorem wifaces (os : Os) : (World.holding Tryz.prog os ⟨#[], #[], []⟩).layIfaces Tryz.prog Rows.limitEnvRow.laid (World.laidAll Tryz.prog os Rows.limitEnvRow.laid) = true := by kernel_rfl
end Go.Proofs.YtkijgkjjbanipaaGreatDoor

