/- Part 44 of the proof: CbCa51Le. -/
import Derived.Test.YtehcjdaedhmkdaaGreatDoorB38
import Derived.Test.YtehcjdaedhmkdaaGreatDoorB42
import Derived.Test.YtehcjdaedhmkdaaGreatDoorB43
import Derived.Test.YtehcjdaedhmkdaaGreatDoorB28
import Derived.Test.YtehcjdaedhmkdaaGreatDoorRows
import Derived.SevenTiedAt
import Derived.KernelRfl
open Go
namespace Go.Proofs.YtehcjdaedhmkdaaGreatDoor
set_option maxRecDepth 100000
theorem cgoes : false = Rows.bankLoansRow.goesBy Tryz.prog := by
 have h : Rows.bankLoansRow.goesBy Tryz.prog = (((Tryz.prog.funcNamed "corebank/corebanklaw51.BankLoans").any Tryz.prog.goes) || false) := rfl
 rw [h, cfun, Option.any_some, Bool.or_false]
 unfold Program.goes
 rw [clo_eq, cgoA, cgoB]
 rfl
end Go.Proofs.YtehcjdaedhmkdaaGreatDoor

