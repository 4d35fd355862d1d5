/- Part 37 of the proof: CbCa29Ec. -/
import Derived.Test.YtakfofnggifenaaGreatDoorRows
import Derived.SevenTiedAt
import Derived.KernelRfl
open Go
namespace Go.Proofs.YtakfofnggifenaaGreatDoor
set_option maxRecDepth 100000
theorem clooks : true = Tryz.prog.looks [] := by kernel_rfl
end Go.Proofs.YtakfofnggifenaaGreatDoor

