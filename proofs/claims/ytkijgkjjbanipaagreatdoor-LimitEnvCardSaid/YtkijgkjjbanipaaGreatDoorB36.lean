/- Part 36 of the proof: CbTi25E. -/
import Derived.Test.YtkijgkjjbanipaaGreatDoorRows
import Derived.LaidByTextLater
import Derived.SevenTiedAt
import Derived.KernelRfl
import Derived.Test.YtkijgkjjbanipaaGreatDoorB30
import Derived.Test.YtkijgkjjbanipaaGreatDoorB31
import Derived.Test.YtkijgkjjbanipaaGreatDoorB32
import Derived.Test.YtkijgkjjbanipaaGreatDoorB34
import Derived.Test.YtkijgkjjbanipaaGreatDoorB35
set_option linter.all false
open Go
namespace Go.Proofs.YtkijgkjjbanipaaGreatDoor
set_option maxRecDepth 100000
theorem t2 (os : Os) (tape : Tape) : (DataW.laidRun Tryz.prog (varsWorld Tryz.prog 400 (varsId Tryz.prog) os tape).memory 8 (Rows.limitEnvRow.laid.map (·.1))).map (fun x => decide x.2.Nodup && laidRowsB Tryz.prog (varsWorld Tryz.prog 400 (varsId Tryz.prog) os tape).memory x.2) = some true := by
 have ha := t2k os tape
 have hb := t2b os tape
 revert ha hb
 cases DataW.laidRun Tryz.prog (varsWorld Tryz.prog 400 (varsId Tryz.prog) os tape).memory 8 (Rows.limitEnvRow.laid.map (·.1)) with
 | none => intro h; cases h
 | some x =>
  intro ha hb
  simp only [Option.map_some, Option.some.injEq] at ha hb ⊢
  rw [decide_eq_true (Go.Sim.nodup_of_distB ha), hb]; rfl
theorem myTie : Tryz.prog.laidByTextLater Rows.limitEnvRow.laid [.data, .data, .data, .data, .sentinel, .sentinel, .listed, .data] true :=
 Program.laidByTextLater_by_run 400 8 tw tw2 troot tk tg tn td t1 t2 tp
theorem myRowTie : Rows.limitEnvRow.laidByTextAt .later Tryz.pinned [.data, .data, .data, .data, .sentinel, .sentinel, .listed, .data] true :=
 OpenClaim.laidByTextAt_later rfl rfl myTie noUnsafe
end Go.Proofs.YtkijgkjjbanipaaGreatDoor

