/- Part 41 of the proof: CbTi28Eb. -/
import Derived.Test.YtahfohlafjiajaaGreatDoorRows
import Derived.LaidByTextLater
import Derived.SevenTiedAt
import Derived.KernelRfl
open Go
namespace Go.Proofs.YtahfohlafjiajaaGreatDoor
set_option maxRecDepth 100000
theorem tn:varsNamedLaterB Tryz.prog (varsId Tryz.prog) Rows.feeEntriesRow.laid=true:=by kernel_rfl
theorem td : ∀os tape,varsDone Tryz.prog 400 (varsId Tryz.prog) os tape=true:=fun _ _=>by kernel_rfl
end Go.Proofs.YtahfohlafjiajaaGreatDoor

