/- Part 42 of the proof: CbTi28Ec. -/
import Derived.Test.YtahfohlafjiajaaGreatDoorRows
import Derived.LaidByTextLater
import Derived.SevenTiedAt
import Derived.KernelRfl
open Go
namespace Go.Proofs.YtahfohlafjiajaaGreatDoor
set_option maxRecDepth 100000
theorem t1 : ∀os tape,(DataW.laidRun Tryz.prog (varsWorld Tryz.prog 400 (varsId Tryz.prog) os tape).memory 8 (Rows.feeEntriesRow.laid.map (·.1))).map (·.1)=some Rows.feeEntriesRow.laid:=fun _ _=>by kernel_rfl
end Go.Proofs.YtahfohlafjiajaaGreatDoor

