/- Part 22 of the proof: CbRow25E. -/
import Derived.Test.YtkijgkjjbanipaaGreatDoorB16
import Derived.Test.YtkijgkjjbanipaaGreatDoorRows
import Derived.SevenTiedAt
import Derived.MakeChecks
import Derived.Lay
import Derived.Test.YtkijgkjjbanipaaGreatDoorB17
import Derived.Test.YtkijgkjjbanipaaGreatDoorB18
import Derived.Test.YtkijgkjjbanipaaGreatDoorB19
import Derived.Test.YtkijgkjjbanipaaGreatDoorB20
import Derived.Test.YtkijgkjjbanipaaGreatDoorB21
set_option linter.all false
open Go Go.Sim Go.RowKit Go.ChangeShapes Go.WideShapes
namespace Go.Proofs.YtkijgkjjbanipaaGreatDoor
set_option maxRecDepth 100000
theorem own : ownKnob Tryz.prog.godebug = none := by kernel_rfl
theorem plainLaid : (Rows.limitEnvRow.laid.all fun x => x.2.handleName?.isNone) = true := by kernel_rfl
theorem mem0 : ("internal/strconv.uint64pow10", (.agg (Lib.pow10Tab.map fun z => .lit (.int .u64 z)) : DataW Unit)) ∈ Rows.limitEnvRow.laid := List.mem_cons_of_mem _ (List.mem_cons_of_mem _ (List.mem_cons_of_mem _ (List.mem_cons_self ..)))
theorem mem4 : ("strings.asciiSpace", (.agg (asciiL.map fun z => .lit (.int .u8 z)) : DataW Unit)) ∈ Rows.limitEnvRow.laid := List.mem_cons_of_mem _ (List.mem_cons_of_mem _ (List.mem_cons_of_mem _ (List.mem_cons_of_mem _ (List.mem_cons_of_mem _ (List.mem_cons_of_mem _ (List.mem_cons_of_mem _ (List.mem_cons_self ..)))))))
theorem door_met (os : Os) (args : Array Value) : laidMetH Tryz.prog Rows.limitEnvRow.laid ((World.laidAll Tryz.prog os Rows.limitEnvRow.laid).forCall (fun _ _ => 0) ⟨#[], args, []⟩).memory := by
 rw [MakeChecks.laidMetH_plain _ _ _ plainLaid]; exact laidMet_laidAll _ (wfits os) (wifaces os)
theorem door_shaped (os : Os) (args : Array Value) : ((World.laidAll Tryz.prog os Rows.limitEnvRow.laid).forCall (fun _ _ => 0) ⟨#[], args, []⟩).Shaped Tryz.prog := World.shaped_of_ZipB (wzip os args) (wrest os args)
theorem lifted (os : Os) (started : os.Started) (H : Type) (enc : TypeId × Value → H) :
  ReturnsInHanded {} Tryz.checked os 3 .any (fun w args => (Rows.limitEnvSpec.pre enc Tryz.prog Tryz.f3 [] false w args ∧ laidMetH Tryz.prog Rows.limitEnvRow.laid w) ∧ sizedMet enc Tryz.prog Tryz.f3 (OpenSpec.ofChange Rows.limitEnvSpec) false w args)
   (Rows.limitEnvSpec.post enc Tryz.prog Tryz.f3 false true false false) := by
 refine returnsInHanded_of_change_and (C := Tryz.checked) (X := fun w _ => laidMetH Tryz.prog Rows.limitEnvRow.laid w) (fun _ _ _ hh h => h.of_heap hh) own started (by kernel_rfl) Tryz.func3
  (ChangeSpec.witness_shaped (enc := enc) (C := Tryz.checked) (os := os) (X := fun w _ => laidMetH Tryz.prog Rows.limitEnvRow.laid w) false (World.laidAll Tryz.prog os Rows.limitEnvRow.laid) #[.agg #[.slice none 0 0, .slice none 0 0, .slice none 0 0, .int .i64 0, .int .i64 0, .int .i64 0, .int .i64 0, .int .i64 0, .int .i64 0, .int .i64 0, .int .i64 0, .int .i64 0, .int .i64 0, .int .i64 0, .int .i64 0, .int .i64 0, .int .i64 0, .slice none 0 0, .slice none 0 0, .slice none 0 0, .slice none 0 0, .slice none 0 0], .agg #[.int .i64 0, .int .i64 0, .int .i64 0]] 8 (World.laidAll_os _ _ _) (door_shaped os _) (by kernel_rfl) (by kernel_rfl) (by kernel_rfl) (door_met os _)) ?_
 intro W base args ds gs before hval0 hW _ _ hX _
 have hl : laidMet Tryz.prog Rows.limitEnvRow.laid W := (MakeChecks.laidMetH_plain _ _ _ plainLaid) ▸ hX
 have hval : ∀ (j : Nat) t v, Tryz.f3.params[j]? = some t → args[j]? = some v → Value.okWide Tryz.prog W .any base t v := hval0
 have hW' := hW
 obtain ⟨p, q, hA0, hV, rfl, hfz, hnd⟩ := hW
 have hA : DataW.TrodAll enc Tryz.prog W 0 (fun _ => true) true Tryz.f3.params.toList args.toList ds p := hA0
 rw [Tryz.params3] at hA hval
 obtain ⟨v0, v1, d0, d1, p0, p1, rfl, rfl, rfl, h0, h1⟩ := trodAll_two hA
 obtain ⟨rfl, rfl⟩ := trodVars_none hV
 obtain ⟨xs0, x0, a0, b0, c0⟩ := arg_data (n := 12) (hval 0 33 v0 rfl rfl) h0 (by kernel_rfl : tyOf Tryz.prog 12 33 = some (ABooks.ty)) (by kernel_rfl : kq Tryz.prog 33 = some (some 22))
 obtain ⟨xs1, x1, a1, b1, c1⟩ := arg_data (n := 12) (hval 1 35 v1 rfl rfl) h1 (by kernel_rfl : tyOf Tryz.prog 12 35 = some [.i .i64, .i .i64, .i .i64]) (by kernel_rfl : kq Tryz.prog 35 = some (some 3))
 exact law_post (tb := 4) laidOut (by kernel_rfl) (by kernel_rfl) (by kernel_rfl) rfl ⟨rfl, rfl, rfl⟩ hW' (law W v0 v1 x0 x1 xs0 xs1 a0 a1 b0 b1 c0 c1 (gok hl mem0 mem4))
end Go.Proofs.YtkijgkjjbanipaaGreatDoor

