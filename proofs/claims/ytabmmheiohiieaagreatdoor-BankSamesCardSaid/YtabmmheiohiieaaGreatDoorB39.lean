/- Part 39 of the proof: CbCa51sb. -/
import Derived.Test.YtabmmheiohiieaaGreatDoorRows
import Derived.SevenTiedAt
import Derived.KernelRfl
open Go
namespace Go.Proofs.YtabmmheiohiieaaGreatDoor
set_option maxRecDepth 100000
theorem cmain : Tryz.prog.mainIs = some (true, "c983db97be291ef6630024ece6fdadb2382d050bf9880f47ce8a06ee3c1a70a2".toList) := by kernel_rfl
end Go.Proofs.YtabmmheiohiieaaGreatDoor

