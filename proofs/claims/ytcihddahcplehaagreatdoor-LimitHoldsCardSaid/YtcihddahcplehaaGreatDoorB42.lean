/- Part 42 of the proof: CbTi25Hb. -/
import Derived.Test.YtcihddahcplehaaGreatDoorRows
import Derived.LaidByTextLater
import Derived.SevenTiedAt
import Derived.KernelRfl
open Go
namespace Go.Proofs.YtcihddahcplehaaGreatDoor
set_option maxRecDepth 100000
theorem tn:varsNamedLaterB Tryz.prog (varsId Tryz.prog) Rows.limitHoldsRow.laid=true:=by kernel_rfl
theorem td : ∀os tape,varsDone Tryz.prog 400 (varsId Tryz.prog) os tape=true:=fun _ _=>by kernel_rfl
end Go.Proofs.YtcihddahcplehaaGreatDoor

