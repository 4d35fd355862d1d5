/- Part 43 of the proof: CbTi25Hc. -/
import Derived.Test.YtcihddahcplehaaGreatDoorRows
import Derived.LaidByTextLater
import Derived.SevenTiedAt
import Derived.KernelRfl
open Go
namespace Go.Proofs.YtcihddahcplehaaGreatDoor
set_option maxRecDepth 100000
theorem t1 : ∀os tape,(DataW.laidRun Tryz.prog (varsWorld Tryz.prog 400 (varsId Tryz.prog) os tape).memory 8 (Rows.limitHoldsRow.laid.map (·.1))).map (·.1)=some Rows.limitHoldsRow.laid:=fun _ _=>by kernel_rfl
end Go.Proofs.YtcihddahcplehaaGreatDoor

