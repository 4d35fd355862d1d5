/- Part 43 of the proof: CbCa51Lg. -/
import Derived.Test.YtehcjdaedhmkdaaGreatDoorRows
import Derived.SevenTiedAt
import Derived.KernelRfl
open Go
namespace Go.Proofs.YtehcjdaedhmkdaaGreatDoor
set_option maxRecDepth 100000
theorem cgoB : (Tryz.prog.unfollowed 4 && Tryz.prog.funcs.any Func.goes) = false := by kernel_rfl
end Go.Proofs.YtehcjdaedhmkdaaGreatDoor

