/- Part 46 of the proof: CbTi52Y. -/
import Derived.Test.YtpjacfiddgajfaaGreatDoorRows
import Derived.LaidByTextLater
import Derived.SevenTiedAt
import Derived.KernelRfl
import Derived.Test.YtpjacfiddgajfaaGreatDoorYB40
import Derived.Test.YtpjacfiddgajfaaGreatDoorYB41
import Derived.Test.YtpjacfiddgajfaaGreatDoorYB42
import Derived.Test.YtpjacfiddgajfaaGreatDoorYB44
import Derived.Test.YtpjacfiddgajfaaGreatDoorYB45
open Go
namespace Go.Proofs.YtpjacfiddgajfaaGreatDoor
set_option maxRecDepth 100000
theorem t2 (os : Os) (tape : Tape) : (DataW.laidRun Tryz.prog (varsWorld Tryz.prog 400 (varsId Tryz.prog) os tape).memory 8 (Rows.eodBeforeRow.laid.map (·.1))).map (fun x => decide x.2.Nodup && laidRowsB Tryz.prog (varsWorld Tryz.prog 400 (varsId Tryz.prog) os tape).memory x.2) = some true := by
 have ha := t2k os tape
 have hb := t2b os tape
 revert ha hb
 cases DataW.laidRun Tryz.prog (varsWorld Tryz.prog 400 (varsId Tryz.prog) os tape).memory 8 (Rows.eodBeforeRow.laid.map (·.1)) with
 | none => intro h; cases h
 | some x =>
  intro ha hb
  simp only [Option.map_some, Option.some.injEq] at ha hb ⊢
  rw [decide_eq_true (Go.Sim.nodup_of_distB ha), hb]; rfl
theorem myTie : Tryz.prog.laidByTextLater Rows.eodBeforeRow.laid [.data, .data, .data, .data, .listed, .sentinel, .sentinel, .data, .data] true :=
 Program.laidByTextLater_by_run 400 8 tw tw2 troot tk tg tn td t1 t2 tp
theorem myRowTie : Rows.eodBeforeRow.laidByTextAt .later Tryz.pinned [.data, .data, .data, .data, .listed, .sentinel, .sentinel, .data, .data] true :=
 OpenClaim.laidByTextAt_later rfl rfl myTie noUnsafe
end Go.Proofs.YtpjacfiddgajfaaGreatDoor

