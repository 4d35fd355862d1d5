/- Part 43 of the proof. -/
import Derived.Test.YtmaaepdecdhmnaaGreatDoorRows
import Derived.LaidByTextLater
import Derived.SevenTiedAt
import Derived.KernelRfl
section
open Go
namespace Go.Proofs.YtmaaepdecdhmnaaGreatDoor
set_option maxRecDepth 100000
theorem t1:∀os tape,(DataW.laidRun Tryz.prog (varsWorld Tryz.prog 400 (varsId Tryz.prog) os tape).memory 8 (Rows.limitAllowsRow.laid.map (·.1))).map (·.1)=some Rows.limitAllowsRow.laid:=fun _ _=>by kernel_rfl
end Go.Proofs.YtmaaepdecdhmnaaGreatDoor
end
