/- Part 47 of the proof: CbCa52Ya. -/
import Derived.Test.YtpjacfiddgajfaaGreatDoorRows
import Derived.SevenTiedAt
import Derived.KernelRfl
open Go
namespace Go.Proofs.YtpjacfiddgajfaaGreatDoor
set_option maxRecDepth 100000
theorem cwf : Rows.eodBeforeRow.wfByText (OpenSpec.ofChange Rows.eodBeforeSpec) = true := by kernel_rfl
theorem cfun : Tryz.prog.funcNamed "corebank/corebanklaw52.EodBefore" = some 4 := by kernel_rfl
end Go.Proofs.YtpjacfiddgajfaaGreatDoor

