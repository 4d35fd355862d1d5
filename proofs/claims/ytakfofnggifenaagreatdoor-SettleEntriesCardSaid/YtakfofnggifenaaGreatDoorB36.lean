/- Part 36 of the proof: CbCa29Sa. -/
import Derived.Test.YtakfofnggifenaaGreatDoorRows
import Derived.SevenTiedAt
import Derived.KernelRfl
open Go
namespace Go.Proofs.YtakfofnggifenaaGreatDoor
set_option maxRecDepth 100000
theorem cwf : Rows.settleEntriesRow.wfByText (OpenSpec.ofChange Rows.settleEntriesSpec) = true := by kernel_rfl
theorem cfun : Tryz.prog.funcNamed "corebank/corebanklaw29.SettleEntries" = some 4 := by kernel_rfl
end Go.Proofs.YtakfofnggifenaaGreatDoor

