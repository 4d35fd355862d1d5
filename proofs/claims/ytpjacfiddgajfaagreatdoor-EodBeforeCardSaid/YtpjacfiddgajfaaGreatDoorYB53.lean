/- Part 53 of the proof: CbCa52Ye. -/
import Derived.Test.YtpjacfiddgajfaaGreatDoorYB47
import Derived.Test.YtpjacfiddgajfaaGreatDoorYB51
import Derived.Test.YtpjacfiddgajfaaGreatDoorYB52
import Derived.Test.YtpjacfiddgajfaaGreatDoorYB34
import Derived.Test.YtpjacfiddgajfaaGreatDoorRows
import Derived.SevenTiedAt
import Derived.KernelRfl
open Go
namespace Go.Proofs.YtpjacfiddgajfaaGreatDoor
set_option maxRecDepth 100000
theorem cgoes : false = Rows.eodBeforeRow.goesBy Tryz.prog := by
 have h : Rows.eodBeforeRow.goesBy Tryz.prog = (((Tryz.prog.funcNamed "corebank/corebanklaw52.EodBefore").any Tryz.prog.goes) || false) := rfl
 rw [h, cfun, Option.any_some, Bool.or_false]
 unfold Program.goes
 rw [clo_eq, cgoA, cgoB]
 rfl
end Go.Proofs.YtpjacfiddgajfaaGreatDoor

