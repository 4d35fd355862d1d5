/- Part 17 of the proof: CbDo29Eb. -/
import Derived.Test.YtakfofnggifenaaGreatDoorRows
import Derived.Lay
import Derived.KernelRfl
open Go
namespace Go.Proofs.YtakfofnggifenaaGreatDoor
set_option maxRecDepth 100000
theorem wifaces (os : Os) : (World.holding Tryz.prog os ⟨#[], #[], []⟩).layIfaces Tryz.prog Rows.settleEndsRow.laid (World.laidAll Tryz.prog os Rows.settleEndsRow.laid) = true := by kernel_rfl
end Go.Proofs.YtakfofnggifenaaGreatDoor

