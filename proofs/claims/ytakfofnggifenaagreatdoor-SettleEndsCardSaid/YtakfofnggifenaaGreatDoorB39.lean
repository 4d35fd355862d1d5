/- Part 39 of the proof: CbCa29Ee. -/
import Derived.Test.YtakfofnggifenaaGreatDoorRows
import Derived.SevenTiedAt
import Derived.KernelRfl
open Go
namespace Go.Proofs.YtakfofnggifenaaGreatDoor
set_option maxRecDepth 100000
theorem cgoes : false = Rows.settleEndsRow.goesBy Tryz.prog := by kernel_rfl
end Go.Proofs.YtakfofnggifenaaGreatDoor

