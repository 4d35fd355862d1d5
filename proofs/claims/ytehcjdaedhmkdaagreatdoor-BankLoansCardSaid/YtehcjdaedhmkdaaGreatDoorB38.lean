/- Part 38 of the proof: CbCa51La. -/
import Derived.Test.YtehcjdaedhmkdaaGreatDoorRows
import Derived.SevenTiedAt
import Derived.KernelRfl
open Go
namespace Go.Proofs.YtehcjdaedhmkdaaGreatDoor
set_option maxRecDepth 100000
theorem cwf : Rows.bankLoansRow.wfByText (OpenSpec.ofChange Rows.bankLoansSpec) = true := by kernel_rfl
theorem cfun : Tryz.prog.funcNamed "corebank/corebanklaw51.BankLoans" = some 4 := by kernel_rfl
end Go.Proofs.YtehcjdaedhmkdaaGreatDoor

