/- Part 43 of the proof: CbCa51Pe. -/
import Derived.Test.YtehcjdaedhmkdaaGreatDoorB37
import Derived.Test.YtehcjdaedhmkdaaGreatDoorB41
import Derived.Test.YtehcjdaedhmkdaaGreatDoorB42
import Derived.Test.YtehcjdaedhmkdaaGreatDoorB27
import Derived.Test.YtehcjdaedhmkdaaGreatDoorRows
import Derived.SevenTiedAt
import Derived.KernelRfl
open Go
namespace Go.Proofs.YtehcjdaedhmkdaaGreatDoor
set_option maxRecDepth 100000
theorem cgoes : false = Rows.bankPaidRow.goesBy Tryz.prog := by
 have h : Rows.bankPaidRow.goesBy Tryz.prog = (((Tryz.prog.funcNamed "corebank/corebanklaw51.BankPaid").any Tryz.prog.goes) || false) := rfl
 rw [h, cfun, Option.any_some, Bool.or_false]
 unfold Program.goes
 rw [clo_eq, cgoA, cgoB]
 rfl
end Go.Proofs.YtehcjdaedhmkdaaGreatDoor

