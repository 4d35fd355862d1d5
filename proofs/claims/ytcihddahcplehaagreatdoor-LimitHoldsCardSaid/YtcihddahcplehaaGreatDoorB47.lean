/- Part 47 of the proof: CbTi25H. -/
import Derived.Test.YtcihddahcplehaaGreatDoorRows
import Derived.LaidByTextLater
import Derived.SevenTiedAt
import Derived.KernelRfl
import Derived.Test.YtcihddahcplehaaGreatDoorB41
import Derived.Test.YtcihddahcplehaaGreatDoorB42
import Derived.Test.YtcihddahcplehaaGreatDoorB43
import Derived.Test.YtcihddahcplehaaGreatDoorB45
import Derived.Test.YtcihddahcplehaaGreatDoorB46
open Go
namespace Go.Proofs.YtcihddahcplehaaGreatDoor
set_option maxRecDepth 100000
theorem t2 (os:Os) (tape:Tape):(DataW.laidRun Tryz.prog (varsWorld Tryz.prog 400 (varsId Tryz.prog) os tape).memory 8 (Rows.limitHoldsRow.laid.map (·.1))).map (fun x=>decide x.2.Nodup&&laidRowsB Tryz.prog (varsWorld Tryz.prog 400 (varsId Tryz.prog) os tape).memory x.2)=some true:=by
 have ha:=t2k os tape
 have hb:=t2b os tape
 revert ha hb
 cases DataW.laidRun Tryz.prog (varsWorld Tryz.prog 400 (varsId Tryz.prog) os tape).memory 8 (Rows.limitHoldsRow.laid.map (·.1)) with
 |none=>intro h;cases h
 |some x =>
  intro ha hb;simp only[Option.map_some,Option.some.injEq] at ha hb⊢;rw[decide_eq_true (Go.Sim.nodup_of_distB ha),hb];rfl
theorem qBu:Tryz.prog.laidByTextLater Rows.limitHoldsRow.laid [.data,.data,.data,.data,.sentinel,.sentinel,.listed,.data] true :=
 Program.laidByTextLater_by_run 400 8 tw tw2 qHO tk tg tn td t1 t2 tp
theorem qAr:Rows.limitHoldsRow.laidByTextAt .later Tryz.pinned [.data,.data,.data,.data,.sentinel,.sentinel,.listed,.data] true :=
 OpenClaim.laidByTextAt_later rfl rfl qBu qFY
end Go.Proofs.YtcihddahcplehaaGreatDoor

