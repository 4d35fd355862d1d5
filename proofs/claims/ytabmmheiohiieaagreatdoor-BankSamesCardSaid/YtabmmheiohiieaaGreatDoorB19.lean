/- Part 19 of the proof: CbDo51sa. -/
import Derived.Test.YtabmmheiohiieaaGreatDoorRows
import Derived.Lay
import Derived.KernelRfl
open Go
namespace Go.Proofs.YtabmmheiohiieaaGreatDoor
set_option maxRecDepth 100000
theorem wfits (os : Os) : (World.holding Tryz.prog os ⟨#[], #[], []⟩).layFits Tryz.prog Rows.bankSamesRow.laid [] = true := by kernel_rfl
end Go.Proofs.YtabmmheiohiieaaGreatDoor

