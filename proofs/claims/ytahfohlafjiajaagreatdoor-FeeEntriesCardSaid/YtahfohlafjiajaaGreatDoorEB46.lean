/- Part 46 of the proof: CbTi28E. -/
import Derived.Test.YtahfohlafjiajaaGreatDoorRows
import Derived.LaidByTextLater
import Derived.SevenTiedAt
import Derived.KernelRfl
import Derived.Test.YtahfohlafjiajaaGreatDoorEB40
import Derived.Test.YtahfohlafjiajaaGreatDoorEB41
import Derived.Test.YtahfohlafjiajaaGreatDoorEB42
import Derived.Test.YtahfohlafjiajaaGreatDoorEB44
import Derived.Test.YtahfohlafjiajaaGreatDoorEB45
open Go
namespace Go.Proofs.YtahfohlafjiajaaGreatDoor
set_option maxRecDepth 100000
theorem t2 (os:Os) (tape:Tape):(DataW.laidRun Tryz.prog (varsWorld Tryz.prog 400 (varsId Tryz.prog) os tape).memory 8 (Rows.feeEntriesRow.laid.map (·.1))).map (fun x=>decide x.2.Nodup&&laidRowsB Tryz.prog (varsWorld Tryz.prog 400 (varsId Tryz.prog) os tape).memory x.2)=some true:=by
 have ha:=t2k os tape
 have hb:=t2b os tape
 revert ha hb
 cases DataW.laidRun Tryz.prog (varsWorld Tryz.prog 400 (varsId Tryz.prog) os tape).memory 8 (Rows.feeEntriesRow.laid.map (·.1)) with
 |none=>intro h;cases h
 |some x =>
  intro ha hb;simp only[Option.map_some,Option.some.injEq] at ha hb⊢;rw[decide_eq_true (Go.Sim.nodup_of_distB ha),hb];rfl
theorem qC6:Tryz.prog.laidByTextLater Rows.feeEntriesRow.laid [.data,.data,.data,.data,.sentinel,.sentinel,.listed,.data] true :=
 Program.laidByTextLater_by_run 400 8 tw tw2 qH0 tk tg tn td t1 t2 tp
theorem qC5:Rows.feeEntriesRow.laidByTextAt .later Tryz.pinned [.data,.data,.data,.data,.sentinel,.sentinel,.listed,.data] true :=
 OpenClaim.laidByTextAt_later rfl rfl qC6 qDa
end Go.Proofs.YtahfohlafjiajaaGreatDoor

