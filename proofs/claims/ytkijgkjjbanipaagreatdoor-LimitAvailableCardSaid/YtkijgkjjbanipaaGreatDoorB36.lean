/- Part 36 of the proof: CbCa25Aa. -/
import Derived.Test.YtkijgkjjbanipaaGreatDoorRows
import Derived.SevenTiedAt
import Derived.KernelRfl
open Go
namespace Go.Proofs.YtkijgkjjbanipaaGreatDoor
set_option maxRecDepth 100000
theorem cwf : Rows.limitAvailableRow.wfByText (OpenSpec.ofChange Rows.limitAvailableSpec) = true := by kernel_rfl
theorem cfun : Tryz.prog.funcNamed "corebank/corebanklaw25.LimitAvailable" = some 4 := by kernel_rfl
end Go.Proofs.YtkijgkjjbanipaaGreatDoor

