/- Part 45 of the proof: CbCa25Fa. -/
import Derived.Test.YtkijgkjjbanipaaGreatDoorRows
import Derived.SevenTiedAt
import Derived.KernelRfl
open Go
namespace Go.Proofs.YtkijgkjjbanipaaGreatDoor
set_option maxRecDepth 100000
theorem cwf:Rows.limitFreesRow.wfByText (OpenSpec.ofChange Rows.limitFreesSpec)=true:=by kernel_rfl
theorem cfun:Tryz.prog.funcNamed "corebank/corebanklaw25.LimitFrees" = some 6:=by kernel_rfl
end Go.Proofs.YtkijgkjjbanipaaGreatDoor

