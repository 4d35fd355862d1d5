/- Part 39 of the proof: CbCa51Lb. -/
import Derived.Test.YtehcjdaedhmkdaaGreatDoorRows
import Derived.SevenTiedAt
import Derived.KernelRfl
open Go
namespace Go.Proofs.YtehcjdaedhmkdaaGreatDoor
set_option maxRecDepth 100000
theorem cmain : Tryz.prog.mainIs = some (true, "071ecefb41a628626b07548329ea6d75366359bcbf8f8cf5e667c0671e9bd047".toList) := by kernel_rfl
end Go.Proofs.YtehcjdaedhmkdaaGreatDoor

