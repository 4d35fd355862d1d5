/- Part 40 of the proof: CbCa51sc. -/
import Derived.Test.YtabmmheiohiieaaGreatDoorRows
import Derived.SevenTiedAt
import Derived.KernelRfl
open Go
namespace Go.Proofs.YtabmmheiohiieaaGreatDoor
set_option maxRecDepth 100000
theorem clooks : true = Tryz.prog.looks [] := by kernel_rfl
end Go.Proofs.YtabmmheiohiieaaGreatDoor

