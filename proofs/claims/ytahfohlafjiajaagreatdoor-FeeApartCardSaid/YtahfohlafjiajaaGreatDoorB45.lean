/- Part 45 of the proof: CbCa28Aa. -/
import Derived.Test.YtahfohlafjiajaaGreatDoorRows
import Derived.SevenTiedAt
import Derived.KernelRfl
open Go
namespace Go.Proofs.YtahfohlafjiajaaGreatDoor
set_option maxRecDepth 100000
theorem cwf:Rows.feeApartRow.wfByText (OpenSpec.ofChange Rows.feeApartSpec)=true:=by kernel_rfl
theorem cfun:Tryz.prog.funcNamed "corebank/corebanklaw28.FeeApart" = some 5:=by kernel_rfl
end Go.Proofs.YtahfohlafjiajaaGreatDoor

