/- Part 48 of the proof. -/
import Derived.Test.YtmaaepdecdhmnaaGreatDoorRows
import Derived.SevenTiedAt
import Derived.KernelRfl
section
open Go
namespace Go.Proofs.YtmaaepdecdhmnaaGreatDoor
set_option maxRecDepth 100000
theorem cwf:Rows.limitAllowsRow.wfByText (OpenSpec.ofChange Rows.limitAllowsSpec)=true:=by kernel_rfl
theorem cfun:Tryz.prog.funcNamed "corebank/corebanklaw25.LimitAllows" = some 3:=by kernel_rfl
end Go.Proofs.YtmaaepdecdhmnaaGreatDoor
end
