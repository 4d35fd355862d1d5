/- Part 41 of the proof: CbCa51sd. -/
import Derived.Test.YtabmmheiohiieaaGreatDoorRows
import Derived.SevenTiedAt
import Derived.KernelRfl
open Go
namespace Go.Proofs.YtabmmheiohiieaaGreatDoor
set_option maxRecDepth 100000
theorem cwants : ([51, 51].all fun u => !Tryz.prog.wantsStandIn u) = true := by kernel_rfl
end Go.Proofs.YtabmmheiohiieaaGreatDoor

