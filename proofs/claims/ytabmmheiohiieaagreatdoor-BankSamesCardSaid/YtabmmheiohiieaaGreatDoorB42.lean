/- Part 42 of the proof: CbCa51se. -/
import Derived.Test.YtabmmheiohiieaaGreatDoorRows
import Derived.SevenTiedAt
import Derived.KernelRfl
open Go
namespace Go.Proofs.YtabmmheiohiieaaGreatDoor
set_option maxRecDepth 100000
theorem cgoes : false = Rows.bankSamesRow.goesBy Tryz.prog := by kernel_rfl
end Go.Proofs.YtabmmheiohiieaaGreatDoor

