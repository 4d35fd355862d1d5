/- Part 19 of the proof: CbDo51La. -/
import Derived.Test.YtehcjdaedhmkdaaGreatDoorRows
import Derived.Lay
import Derived.KernelRfl
open Go
namespace Go.Proofs.YtehcjdaedhmkdaaGreatDoor
set_option maxRecDepth 100000
theorem wfits (os : Os) : (World.holding Tryz.prog os ⟨#[], #[], []⟩).layFits Tryz.prog Rows.bankLoansRow.laid [] = true := by kernel_rfl
end Go.Proofs.YtehcjdaedhmkdaaGreatDoor

