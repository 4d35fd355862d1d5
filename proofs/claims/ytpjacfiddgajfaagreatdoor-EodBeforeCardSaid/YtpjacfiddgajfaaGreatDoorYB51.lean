/- Part 51 of the proof: CbCa52Yf. -/
import Derived.Test.YtpjacfiddgajfaaGreatDoorYB34
import Derived.Test.YtpjacfiddgajfaaGreatDoorRows
import Derived.SevenTiedAt
import Derived.KernelRfl
open Go
namespace Go.Proofs.YtpjacfiddgajfaaGreatDoor
set_option maxRecDepth 100000
theorem cgoA : (clo.any fun g => (Tryz.prog.funcs[g]?).any Func.goes) = false := by kernel_rfl
end Go.Proofs.YtpjacfiddgajfaaGreatDoor

