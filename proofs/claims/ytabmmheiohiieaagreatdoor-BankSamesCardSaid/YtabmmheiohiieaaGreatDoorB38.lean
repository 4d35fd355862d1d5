/- Part 38 of the proof: CbCa51sa. -/
import Derived.Test.YtabmmheiohiieaaGreatDoorRows
import Derived.SevenTiedAt
import Derived.KernelRfl
open Go
namespace Go.Proofs.YtabmmheiohiieaaGreatDoor
set_option maxRecDepth 100000
theorem cwf : Rows.bankSamesRow.wfByText (OpenSpec.ofChange Rows.bankSamesSpec) = true := by kernel_rfl
theorem cfun : Tryz.prog.funcNamed "corebank/corebanklaw51.BankSames" = some 3 := by kernel_rfl
end Go.Proofs.YtabmmheiohiieaaGreatDoor

