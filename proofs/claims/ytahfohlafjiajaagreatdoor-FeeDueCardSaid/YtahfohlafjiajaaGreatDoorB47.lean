/- Part 47 of the proof: CbCa28Da. -/
import Derived.Test.YtahfohlafjiajaaGreatDoorRows
import Derived.SevenTiedAt
import Derived.KernelRfl
open Go
namespace Go.Proofs.YtahfohlafjiajaaGreatDoor
set_option maxRecDepth 100000
theorem cwf:Rows.feeDueRow.wfByText (OpenSpec.ofChange Rows.feeDueSpec)=true:=by kernel_rfl
theorem cfun:Tryz.prog.funcNamed "corebank/corebanklaw28.FeeDue" = some 3:=by kernel_rfl
end Go.Proofs.YtahfohlafjiajaaGreatDoor

