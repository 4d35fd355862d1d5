/- Part 41 of the proof: CbCa52a. -/
import Derived.Test.YtpjacfiddgajfaaGreatDoorRows
import Derived.SevenTiedAt
import Derived.KernelRfl
open Go
namespace Go.Proofs.YtpjacfiddgajfaaGreatDoor
set_option maxRecDepth 100000
theorem cwf : Rows.eodKeysRow.wfByText (OpenSpec.ofChange Rows.eodKeysSpec) = true := by kernel_rfl
theorem cfun : Tryz.prog.funcNamed "corebank/corebanklaw52.EodKeys" = some 3 := by kernel_rfl
end Go.Proofs.YtpjacfiddgajfaaGreatDoor

