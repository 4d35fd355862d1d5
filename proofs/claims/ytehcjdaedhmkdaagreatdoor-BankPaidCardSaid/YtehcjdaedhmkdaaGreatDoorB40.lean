/- Part 40 of the proof: CbCa51Pd. -/
import Derived.Test.YtehcjdaedhmkdaaGreatDoorRows
import Derived.SevenTiedAt
import Derived.KernelRfl
open Go
namespace Go.Proofs.YtehcjdaedhmkdaaGreatDoor
set_option maxRecDepth 100000
theorem cwants : ([60].all fun u => !Tryz.prog.wantsStandIn u) = true := by kernel_rfl
end Go.Proofs.YtehcjdaedhmkdaaGreatDoor

