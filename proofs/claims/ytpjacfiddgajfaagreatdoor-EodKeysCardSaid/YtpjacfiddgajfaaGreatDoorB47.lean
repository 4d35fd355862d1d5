/- Part 47 of the proof: CbCa52e. -/
import Derived.Test.YtpjacfiddgajfaaGreatDoorB41
import Derived.Test.YtpjacfiddgajfaaGreatDoorB45
import Derived.Test.YtpjacfiddgajfaaGreatDoorB46
import Derived.Test.YtpjacfiddgajfaaGreatDoorB28
import Derived.Test.YtpjacfiddgajfaaGreatDoorRows
import Derived.SevenTiedAt
import Derived.KernelRfl
open Go
namespace Go.Proofs.YtpjacfiddgajfaaGreatDoor
set_option maxRecDepth 100000
theorem cgoes : false = Rows.eodKeysRow.goesBy Tryz.prog := by
 have h : Rows.eodKeysRow.goesBy Tryz.prog = (((Tryz.prog.funcNamed "corebank/corebanklaw52.EodKeys").any Tryz.prog.goes) || false) := rfl
 rw [h, cfun, Option.any_some, Bool.or_false]
 unfold Program.goes
 rw [clo_eq, cgoA, cgoB]
 rfl
end Go.Proofs.YtpjacfiddgajfaaGreatDoor

