/- Part 37 of the proof: CbCa25Ea. -/
import Derived.Test.YtkijgkjjbanipaaGreatDoorRows
import Derived.SevenTiedAt
import Derived.KernelRfl
set_option linter.all false
open Go
namespace Go.Proofs.YtkijgkjjbanipaaGreatDoor
set_option maxRecDepth 100000
theorem cwf : Rows.limitEnvRow.wfByText (OpenSpec.ofChange Rows.limitEnvSpec) = true := by kernel_rfl
theorem cfun : Tryz.prog.funcNamed "corebank/corebanklaw25.LimitEnv" = some 3 := by kernel_rfl
end Go.Proofs.YtkijgkjjbanipaaGreatDoor

