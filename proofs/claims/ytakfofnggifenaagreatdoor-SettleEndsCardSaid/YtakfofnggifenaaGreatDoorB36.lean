/- Part 36 of the proof: CbCa29Eb. -/
import Derived.Test.YtakfofnggifenaaGreatDoorRows
import Derived.SevenTiedAt
import Derived.KernelRfl
open Go
namespace Go.Proofs.YtakfofnggifenaaGreatDoor
set_option maxRecDepth 100000
theorem cmain : Tryz.prog.mainIs = some (true, "2f4651aaba0be3d75943fd169c316c68e2c04a88d058065fc6fd52344ff279ef".toList) := by kernel_rfl
end Go.Proofs.YtakfofnggifenaaGreatDoor

