/- Part 16 of the proof: CbDo29Ea. -/
import Derived.Test.YtakfofnggifenaaGreatDoorRows
import Derived.Lay
import Derived.KernelRfl
open Go
namespace Go.Proofs.YtakfofnggifenaaGreatDoor
set_option maxRecDepth 100000
theorem wfits (os : Os) : (World.holding Tryz.prog os ⟨#[], #[], []⟩).layFits Tryz.prog Rows.settleEndsRow.laid [] = true := by kernel_rfl
end Go.Proofs.YtakfofnggifenaaGreatDoor

