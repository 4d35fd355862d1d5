/- Part 47 of the proof: CbCa28Ea. -/
import Derived.Test.YtahfohlafjiajaaGreatDoorRows
import Derived.SevenTiedAt
import Derived.KernelRfl
open Go
namespace Go.Proofs.YtahfohlafjiajaaGreatDoor
set_option maxRecDepth 100000
theorem cwf:Rows.feeEntriesRow.wfByText (OpenSpec.ofChange Rows.feeEntriesSpec)=true:=by kernel_rfl
theorem cfun:Tryz.prog.funcNamed "corebank/corebanklaw28.FeeEntries" = some 4:=by kernel_rfl
end Go.Proofs.YtahfohlafjiajaaGreatDoor

