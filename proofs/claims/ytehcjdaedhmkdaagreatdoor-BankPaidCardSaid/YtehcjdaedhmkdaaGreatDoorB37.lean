/- Part 37 of the proof: CbCa51Pa. -/
import Derived.Test.YtehcjdaedhmkdaaGreatDoorRows
import Derived.SevenTiedAt
import Derived.KernelRfl
open Go
namespace Go.Proofs.YtehcjdaedhmkdaaGreatDoor
set_option maxRecDepth 100000
theorem cwf : Rows.bankPaidRow.wfByText (OpenSpec.ofChange Rows.bankPaidSpec) = true := by kernel_rfl
theorem cfun : Tryz.prog.funcNamed "corebank/corebanklaw51.BankPaid" = some 3 := by kernel_rfl
end Go.Proofs.YtehcjdaedhmkdaaGreatDoor

