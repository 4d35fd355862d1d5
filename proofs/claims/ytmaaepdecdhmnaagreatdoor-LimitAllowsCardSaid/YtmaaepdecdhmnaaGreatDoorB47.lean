/- Part 47 of the proof. -/
import Derived.Test.YtmaaepdecdhmnaaGreatDoorRows
import Derived.LaidByTextLater
import Derived.SevenTiedAt
import Derived.KernelRfl
import Derived.Test.YtmaaepdecdhmnaaGreatDoorB41
import Derived.Test.YtmaaepdecdhmnaaGreatDoorB42
import Derived.Test.YtmaaepdecdhmnaaGreatDoorB43
import Derived.Test.YtmaaepdecdhmnaaGreatDoorB45
import Derived.Test.YtmaaepdecdhmnaaGreatDoorB46
section
open Go
namespace Go.Proofs.YtmaaepdecdhmnaaGreatDoor
set_option maxRecDepth 100000
theorem t2(os:Os)(tape:Tape):(DataW.laidRun Tryz.prog (varsWorld Tryz.prog 400 (varsId Tryz.prog) os tape).memory 8 (Rows.limitAllowsRow.laid.map (·.1))).map (fun x=>decide x.2.Nodup&&laidRowsB Tryz.prog (varsWorld Tryz.prog 400 (varsId Tryz.prog) os tape).memory x.2)=some true:=by
 have ha:=t2k os tape
 have hb:=t2b os tape
 revert ha hb
 cases DataW.laidRun Tryz.prog (varsWorld Tryz.prog 400 (varsId Tryz.prog) os tape).memory 8 (Rows.limitAllowsRow.laid.map (·.1))with
 |none=>intro h;cases h
 |some x =>
  intro ha hb;simp only[Option.map_some,Option.some.injEq]at ha hb⊢;rw[decide_eq_true (Go.Sim.nodup_of_distB ha),hb];rfl
theorem qDY:Tryz.prog.laidByTextLater Rows.limitAllowsRow.laid [.data,.data,.data,.data,.sentinel,.sentinel,.listed,.data] true :=
 Program.laidByTextLater_by_run 400 8 tw tw2 qJq tk tg tn td t1 t2 tp
theorem qDX:Rows.limitAllowsRow.laidByTextAt .later Tryz.pinned [.data,.data,.data,.data,.sentinel,.sentinel,.listed,.data] true :=
 OpenClaim.laidByTextAt_later rfl rfl qDY qD1
end Go.Proofs.YtmaaepdecdhmnaaGreatDoor
end
