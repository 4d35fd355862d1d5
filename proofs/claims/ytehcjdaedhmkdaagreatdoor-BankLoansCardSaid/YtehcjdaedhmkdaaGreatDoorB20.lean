/- Part 20 of the proof: CbDo51Lb. -/
import Derived.Test.YtehcjdaedhmkdaaGreatDoorRows
import Derived.Lay
import Derived.KernelRfl
open Go
namespace Go.Proofs.YtehcjdaedhmkdaaGreatDoor
set_option maxRecDepth 100000
theorem wifaces (os : Os) : (World.holding Tryz.prog os ⟨#[], #[], []⟩).layIfaces Tryz.prog Rows.bankLoansRow.laid (World.laidAll Tryz.prog os Rows.bankLoansRow.laid) = true := by kernel_rfl
end Go.Proofs.YtehcjdaedhmkdaaGreatDoor

