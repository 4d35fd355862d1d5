/- Part 42 of the proof: CbCa51Pg. -/
import Derived.Test.YtehcjdaedhmkdaaGreatDoorRows
import Derived.SevenTiedAt
import Derived.KernelRfl
open Go
namespace Go.Proofs.YtehcjdaedhmkdaaGreatDoor
set_option maxRecDepth 100000
theorem cgoB : (Tryz.prog.unfollowed 3 && Tryz.prog.funcs.any Func.goes) = false := by kernel_rfl
end Go.Proofs.YtehcjdaedhmkdaaGreatDoor

