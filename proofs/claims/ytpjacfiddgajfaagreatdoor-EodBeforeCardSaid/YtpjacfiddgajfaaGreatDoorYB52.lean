/- Part 52 of the proof: CbCa52Yg. -/
import Derived.Test.YtpjacfiddgajfaaGreatDoorRows
import Derived.SevenTiedAt
import Derived.KernelRfl
open Go
namespace Go.Proofs.YtpjacfiddgajfaaGreatDoor
set_option maxRecDepth 100000
theorem cgoC : Tryz.prog.funcs.any Func.goes = false := by kernel_rfl
theorem cgoB : (Tryz.prog.unfollowed 4 && Tryz.prog.funcs.any Func.goes) = false := by rw [cgoC, Bool.and_false]
end Go.Proofs.YtpjacfiddgajfaaGreatDoor

