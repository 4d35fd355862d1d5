/- Part 48 of the proof: CbCa25Ha. -/
import Derived.Test.YtcihddahcplehaaGreatDoorRows
import Derived.SevenTiedAt
import Derived.KernelRfl
open Go
namespace Go.Proofs.YtcihddahcplehaaGreatDoor
set_option maxRecDepth 100000
theorem cwf:Rows.limitHoldsRow.wfByText (OpenSpec.ofChange Rows.limitHoldsSpec)=true:=by kernel_rfl
theorem cfun:Tryz.prog.funcNamed "corebank/corebanklaw25.LimitHolds" = some 3:=by kernel_rfl
end Go.Proofs.YtcihddahcplehaaGreatDoor

