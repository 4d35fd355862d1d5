/- Part 32 of the proof: CbRow52Y. -/
import Derived.Test.YtpjacfiddgajfaaGreatDoorYB26
import Derived.Test.YtpjacfiddgajfaaGreatDoorRows
import Derived.SevenTiedAt
import Derived.MakeChecks
import Derived.Lay
import Derived.Test.YtpjacfiddgajfaaGreatDoorYB27
import Derived.Test.YtpjacfiddgajfaaGreatDoorYB28
import Derived.Test.YtpjacfiddgajfaaGreatDoorYB29
import Derived.Test.YtpjacfiddgajfaaGreatDoorYB30
import Derived.Test.YtpjacfiddgajfaaGreatDoorYB31
open Go Go.Sim Go.RowKit Go.ChangeShapes Go.WideShapes
namespace Go.Proofs.YtpjacfiddgajfaaGreatDoor
set_option maxRecDepth 100000
theorem own : ownKnob Tryz.prog.godebug = none := by kernel_rfl
theorem plainLaid : (Rows.eodBeforeRow.laid.all fun x => x.2.handleName?.isNone) = true := by kernel_rfl
theorem mem0 : ("internal/strconv.uint64pow10", (.agg (Lib.pow10Tab.map fun z => .lit (.int .u64 z)) : DataW Unit)) ∈ Rows.eodBeforeRow.laid := List.mem_cons_self ..
theorem door_met (os : Os) (args : Array Value) : laidMetH Tryz.prog Rows.eodBeforeRow.laid ((World.laidAll Tryz.prog os Rows.eodBeforeRow.laid).forCall (fun _ _ => 0) ⟨#[], args, []⟩).memory := by
 rw [MakeChecks.laidMetH_plain _ _ _ plainLaid]; exact laidMet_laidAll _ (wfits os) (wifaces os)
theorem door_shaped (os : Os) (args : Array Value) : ((World.laidAll Tryz.prog os Rows.eodBeforeRow.laid).forCall (fun _ _ => 0) ⟨#[], args, []⟩).Shaped Tryz.prog := World.shaped_of_ZipB (wzip os args) (wrest os args)
theorem lifted (os : Os) (started : os.Started) (H : Type) (enc : TypeId × Value → H) :
  ReturnsInHanded {} Tryz.checked os 4 .any (fun w args => (Rows.eodBeforeSpec.pre enc Tryz.prog Tryz.f4 [] false w args ∧ laidMetH Tryz.prog Rows.eodBeforeRow.laid w) ∧ sizedMet enc Tryz.prog Tryz.f4 (OpenSpec.ofChange Rows.eodBeforeSpec) false w args)
   (Rows.eodBeforeSpec.post enc Tryz.prog Tryz.f4 false true false false) := by
 refine returnsInHanded_of_change_and (C := Tryz.checked) (X := fun w _ => laidMetH Tryz.prog Rows.eodBeforeRow.laid w) (fun _ _ _ hh h => h.of_heap hh) own started (by kernel_rfl) Tryz.func4
  (ChangeSpec.witness_shaped (enc := enc) (C := Tryz.checked) (os := os) (X := fun w _ => laidMetH Tryz.prog Rows.eodBeforeRow.laid w) false (World.laidAll Tryz.prog os Rows.eodBeforeRow.laid) #[.agg #[.int .i64 0, .int .i64 0, .string ⟨#[]⟩, .slice none 0 0, .slice none 0 0, .slice none 0 0, .int .i64 0, .int .i64 0, .int .i64 0, .int .i64 0, .int .i64 0, .int .i64 0, .int .i64 0, .int .i64 0, .int .i64 0, .int .i64 0, .int .i64 0, .int .i64 0, .int .i64 0, .int .i64 0, .slice none 0 0, .slice none 0 0, .slice none 0 0, .slice none 0 0, .slice none 0 0, .slice none 0 0, .slice none 0 0, .slice none 0 0, .slice none 0 0, .slice none 0 0, .slice none 0 0, .slice none 0 0, .slice none 0 0, .slice none 0 0, .slice none 0 0, .bool false, .int .i64 0, .int .i64 0, .int .i64 0, .int .i64 0, .slice none 0 0, .slice none 0 0], .agg #[.int .i64 0, .int .i64 0]] 8 (World.laidAll_os _ _ _) (door_shaped os _) (by kernel_rfl) (by kernel_rfl) (by kernel_rfl) (door_met os _)) ?_
 intro W base args ds gs before hval0 hW _ hsz hX _
 have hl : laidMet Tryz.prog Rows.eodBeforeRow.laid W := (MakeChecks.laidMetH_plain _ _ _ plainLaid) ▸ hX
 have hval : ∀ (j : Nat) t v, Tryz.f4.params[j]? = some t → args[j]? = some v → Value.okWide Tryz.prog W .any base t v := hval0
 have hW' := hW
 obtain ⟨p, q, hA0, hV, rfl, hfz, hnd⟩ := hW
 have hA : DataW.TrodAll enc Tryz.prog W 0 (fun _ => true) true Tryz.f4.params.toList args.toList ds p := hA0
 rw [Tryz.params4] at hA hval
 obtain ⟨v0, v1, d0, d1, p0, p1, rfl, rfl, rfl, h0, h1⟩ := trodAll_two hA
 obtain ⟨rfl, rfl⟩ := trodVars_none hV
 obtain ⟨xs0, x0, a0, b0, c0⟩ := arg_data (n := 12) (hval 0 56 v0 rfl rfl) h0 (wts_arg hsz 0 rfl rfl) (by kernel_rfl : tyOf Tryz.prog 12 56 = some (ABank.ty)) (by kernel_rfl : kq Tryz.prog 56 = some (some 42))
 obtain ⟨xs1, x1, a1, b1, c1⟩ := arg_data (n := 12) (hval 1 23 v1 rfl rfl) h1 (wts_arg hsz 1 rfl rfl) (by kernel_rfl : tyOf Tryz.prog 12 23 = some (ATask.ty)) (by kernel_rfl : kq Tryz.prog 23 = some (some 2))
 exact law_post (tb := 4) laidOut (by kernel_rfl) (by kernel_rfl) (by kernel_rfl) rfl ⟨rfl, rfl, rfl⟩ hW' (law W v0 v1 x0 x1 xs0 xs1 a0 a1 b0 b1 c0 c1 (gok hl mem0))
end Go.Proofs.YtpjacfiddgajfaaGreatDoor

