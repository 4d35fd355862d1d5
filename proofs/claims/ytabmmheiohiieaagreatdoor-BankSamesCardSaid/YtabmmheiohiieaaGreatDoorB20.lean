/- Part 20 of the proof: CbDo51sb. -/
import Derived.Test.YtabmmheiohiieaaGreatDoorRows
import Derived.Lay
import Derived.KernelRfl
open Go
namespace Go.Proofs.YtabmmheiohiieaaGreatDoor
set_option maxRecDepth 100000
theorem wifaces (os : Os) : (World.holding Tryz.prog os ⟨#[], #[], []⟩).layIfaces Tryz.prog Rows.bankSamesRow.laid (World.laidAll Tryz.prog os Rows.bankSamesRow.laid) = true := by kernel_rfl
end Go.Proofs.YtabmmheiohiieaaGreatDoor

