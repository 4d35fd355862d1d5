/- Part 42 of the proof: CbCa51Lf. -/
import Derived.Test.YtehcjdaedhmkdaaGreatDoorB28
import Derived.Test.YtehcjdaedhmkdaaGreatDoorRows
import Derived.SevenTiedAt
import Derived.KernelRfl
open Go
namespace Go.Proofs.YtehcjdaedhmkdaaGreatDoor
set_option maxRecDepth 100000
theorem cgoA : (clo.any fun g => (Tryz.prog.funcs[g]?).any Func.goes) = false := by kernel_rfl
end Go.Proofs.YtehcjdaedhmkdaaGreatDoor

