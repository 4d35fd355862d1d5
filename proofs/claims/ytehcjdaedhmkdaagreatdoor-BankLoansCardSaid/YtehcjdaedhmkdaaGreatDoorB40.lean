/- Part 40 of the proof: CbCa51Lc. -/
import Derived.Test.YtehcjdaedhmkdaaGreatDoorRows
import Derived.SevenTiedAt
import Derived.KernelRfl
open Go
namespace Go.Proofs.YtehcjdaedhmkdaaGreatDoor
set_option maxRecDepth 100000
theorem clooks : true = Tryz.prog.looks [] := by kernel_rfl
end Go.Proofs.YtehcjdaedhmkdaaGreatDoor

