/- Part 42 of the proof. -/
import Derived.Test.YtmaaepdecdhmnaaGreatDoorRows
import Derived.LaidByTextLater
import Derived.SevenTiedAt
import Derived.KernelRfl
section
open Go
namespace Go.Proofs.YtmaaepdecdhmnaaGreatDoor
set_option maxRecDepth 100000
theorem tn:varsNamedLaterB Tryz.prog (varsId Tryz.prog) Rows.limitAllowsRow.laid=true:=by kernel_rfl
theorem td:∀os tape,varsDone Tryz.prog 400 (varsId Tryz.prog) os tape=true:=fun _ _=>by kernel_rfl
end Go.Proofs.YtmaaepdecdhmnaaGreatDoor
end
