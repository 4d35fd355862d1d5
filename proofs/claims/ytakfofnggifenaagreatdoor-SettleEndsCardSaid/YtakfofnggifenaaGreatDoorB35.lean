/- Part 35 of the proof: CbCa29Ea. -/
import Derived.Test.YtakfofnggifenaaGreatDoorRows
import Derived.SevenTiedAt
import Derived.KernelRfl
open Go
namespace Go.Proofs.YtakfofnggifenaaGreatDoor
set_option maxRecDepth 100000
theorem cwf : Rows.settleEndsRow.wfByText (OpenSpec.ofChange Rows.settleEndsSpec) = true := by kernel_rfl
theorem cfun : Tryz.prog.funcNamed "corebank/corebanklaw29.SettleEnds" = some 3 := by kernel_rfl
end Go.Proofs.YtakfofnggifenaaGreatDoor

