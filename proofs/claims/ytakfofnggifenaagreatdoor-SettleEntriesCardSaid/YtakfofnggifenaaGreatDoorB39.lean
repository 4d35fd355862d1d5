/- Part 39 of the proof: CbCa29Sd. -/
import Derived.Test.YtakfofnggifenaaGreatDoorRows
import Derived.SevenTiedAt
import Derived.KernelRfl
open Go
namespace Go.Proofs.YtakfofnggifenaaGreatDoor
set_option maxRecDepth 100000
theorem cwants : ([48, 50, 3].all fun u => !Tryz.prog.wantsStandIn u) = true := by kernel_rfl
end Go.Proofs.YtakfofnggifenaaGreatDoor

