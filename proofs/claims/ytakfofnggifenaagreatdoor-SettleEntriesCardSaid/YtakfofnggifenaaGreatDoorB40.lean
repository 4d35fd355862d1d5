/- Part 40 of the proof: CbCa29Se. -/
import Derived.Test.YtakfofnggifenaaGreatDoorRows
import Derived.SevenTiedAt
import Derived.KernelRfl
open Go
namespace Go.Proofs.YtakfofnggifenaaGreatDoor
set_option maxRecDepth 100000
theorem cgoes : false = Rows.settleEntriesRow.goesBy Tryz.prog := by kernel_rfl
end Go.Proofs.YtakfofnggifenaaGreatDoor

