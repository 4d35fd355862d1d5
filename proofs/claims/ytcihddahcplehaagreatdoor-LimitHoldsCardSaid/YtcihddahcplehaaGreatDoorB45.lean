/- Part 45 of the proof: CbTi25Hd. -/
import Derived.Test.YtcihddahcplehaaGreatDoorRows
import Derived.LaidByTextLater
import Derived.SevenTiedAt
import Derived.KernelRfl
import Derived.Test.YtcihddahcplehaaGreatDoorB44
open Go
namespace Go.Proofs.YtcihddahcplehaaGreatDoor
set_option maxRecDepth 100000
theorem t2k : ∀os tape,(DataW.laidRun Tryz.prog (varsWorld Tryz.prog 400 (varsId Tryz.prog) os tape).memory 8 (Rows.limitHoldsRow.laid.map (·.1))).map (fun x=>Go.Sim.distB 0 (x.2.map Go.Sim.mkey))=some true:=fun _ _=>by kernel_rfl
end Go.Proofs.YtcihddahcplehaaGreatDoor

