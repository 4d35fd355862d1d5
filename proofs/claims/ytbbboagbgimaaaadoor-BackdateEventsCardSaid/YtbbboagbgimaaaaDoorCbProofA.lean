/- BackdateEvents: the row and the tied card. -/
import Derived.Test.YtbbboagbgimaaaaDoorCbSeatA
import Derived.Test.YtbbboagbgimaaaaDoorCbB8
import Derived.Test.YtbbboagbgimaaaaDoorCbSimH
import Derived.Test.YtbbboagbgimaaaaDoorCbSimI
import Derived.Test.YtbbboagbgimaaaaDoorRows
import Derived.Test.YtbbboagbgimaaaaDoorCards
import Derived.Test.YtbbboagbgimaaaaDoorTie
import Derived.SevenTiedAt
open Go Go.Sim Go.RowKit Go.ChangeShapes Go.WideShapes
namespace Go.Proofs.YtbbboagbgimaaaaDoor
set_option maxRecDepth 100000
theorem own : ownKnob Tryd.prog.godebug = none := by kernel_rfl
theorem laidOut : laidOutB Tryd.prog = true := by kernel_rfl
def legTy : List Ty := [.i .i64, .i .i64, .s]
def entryTy : List Ty := [.i .i64, .i .i64, .i .i64, .i .i64, .i .i64, .i .i64, .s, .s, .l (some 3) legTy, .i .u64]
def periodTy : List Ty := [.i .i64, .i .i64, .i .i64, .i .i64, .i .i64, .i .i64, .i .i64, .i .i64, .i .u64, .i .i64, .i .u64]
theorem leg_of (cs : List DV) (h : HasL legTy cs) : ∃ l : Leg, DV.a cs = l.dv := by
  obtain ⟨_, _, rfl, h1, h⟩ := hasL_cons h
  obtain ⟨_, _, rfl, h2, h⟩ := hasL_cons h
  obtain ⟨_, _, rfl, h3, h⟩ := hasL_cons h
  obtain rfl := hasL_nil h
  obtain ⟨a, rfl, -⟩ := has_i h1
  obtain ⟨b, rfl, -⟩ := has_i h2
  obtain ⟨c, rfl, -⟩ := has_s h3
  exact ⟨⟨a, b, c⟩, rfl⟩
theorem entry_of (cs : List DV) (h : HasL entryTy cs) : ∃ l : Entry × Bool, DV.a cs = edv l := by
  obtain ⟨_, _, rfl, h1, h⟩ := hasL_cons h
  obtain ⟨_, _, rfl, h2, h⟩ := hasL_cons h
  obtain ⟨_, _, rfl, h3, h⟩ := hasL_cons h
  obtain ⟨_, _, rfl, h4, h⟩ := hasL_cons h
  obtain ⟨_, _, rfl, h5, h⟩ := hasL_cons h
  obtain ⟨_, _, rfl, h6, h⟩ := hasL_cons h
  obtain ⟨_, _, rfl, h7, h⟩ := hasL_cons h
  obtain ⟨_, _, rfl, h8, h⟩ := hasL_cons h
  obtain ⟨_, _, rfl, h9, h⟩ := hasL_cons h
  obtain ⟨_, _, rfl, h10, h⟩ := hasL_cons h
  obtain rfl := hasL_nil h
  obtain ⟨a1, rfl, -⟩ := has_i h1
  obtain ⟨a2, rfl, -⟩ := has_i h2
  obtain ⟨a3, rfl, -⟩ := has_i h3
  obtain ⟨a4, rfl, -⟩ := has_i h4
  obtain ⟨a5, rfl, -⟩ := has_i h5
  obtain ⟨a6, rfl, -⟩ := has_i h6
  obtain ⟨a7, rfl, -⟩ := has_s h7
  obtain ⟨a8, rfl, -⟩ := has_s h8
  obtain ⟨ls, t, rfl, -⟩ := has_l h9 leg_of
  obtain ⟨a10, rfl, -⟩ := has_i h10
  exact ⟨(⟨a1, a2, a3, a4, a5, a6, a7, a8, ls, a10⟩, t), rfl⟩
theorem period_of (cs : List DV) (h : HasL periodTy cs) : ∃ p : Period, DV.a cs = p.dv := by
  obtain ⟨_, _, rfl, h1, h⟩ := hasL_cons h
  obtain ⟨_, _, rfl, h2, h⟩ := hasL_cons h
  obtain ⟨_, _, rfl, h3, h⟩ := hasL_cons h
  obtain ⟨_, _, rfl, h4, h⟩ := hasL_cons h
  obtain ⟨_, _, rfl, h5, h⟩ := hasL_cons h
  obtain ⟨_, _, rfl, h6, h⟩ := hasL_cons h
  obtain ⟨_, _, rfl, h7, h⟩ := hasL_cons h
  obtain ⟨_, _, rfl, h8, h⟩ := hasL_cons h
  obtain ⟨_, _, rfl, h9, h⟩ := hasL_cons h
  obtain ⟨_, _, rfl, h10, h⟩ := hasL_cons h
  obtain ⟨_, _, rfl, h11, h⟩ := hasL_cons h
  obtain rfl := hasL_nil h
  obtain ⟨a1, rfl, -⟩ := has_i h1
  obtain ⟨a2, rfl, -⟩ := has_i h2
  obtain ⟨a3, rfl, -⟩ := has_i h3
  obtain ⟨a4, rfl, -⟩ := has_i h4
  obtain ⟨a5, rfl, -⟩ := has_i h5
  obtain ⟨a6, rfl, -⟩ := has_i h6
  obtain ⟨a7, rfl, -⟩ := has_i h7
  obtain ⟨a8, rfl, -⟩ := has_i h8
  obtain ⟨a9, rfl, -⟩ := has_i h9
  obtain ⟨a10, rfl, -⟩ := has_i h10
  obtain ⟨a11, rfl, -⟩ := has_i h11
  exact ⟨⟨a1, a2, a3, a4, a5, a6, a7, ⟨a8, a9⟩, ⟨a10, a11⟩⟩, rfl⟩
theorem law (W : World) (v0 v1 v2 : Value) (d0 d1 d2 : DV) (xs0 xs1 xs2 : List DV) (e0 : mkD none xs0 = some d0) (e1 : mkD none xs1 = some d1) (e2 : mkD (some 2) xs2 = some d2)
    (h0 : HasL [.l (some 10) entryTy] xs0) (h1 : HasL [.l (some 11) periodTy] xs1) (h2 : HasL [.i .i64, .i .i64] xs2)
    (r0 : RelD W (Live W) d0 v0) (r1 : RelD W (Live W) d1 v1) (r2 : RelD W (Live W) d2 v2) :
    Calls Tryd.prog 3 #[v0, v1, v2] W fun e W' => e = .returned (.bool true) ∧ Below W.heap.size W W' := by
  obtain rfl := mkD_none e0
  obtain rfl := mkD_none e1
  obtain rfl := mkD_some e2
  obtain ⟨_, _, g, h0, -⟩ := hasL_cons h0
  cases g
  obtain ⟨_, _, g, h1, -⟩ := hasL_cons h1
  cases g
  obtain ⟨js, t, rfl, -⟩ := has_l h0 entry_of
  obtain ⟨ls, t', rfl, -⟩ := has_l h1 period_of
  obtain ⟨_, _, rfl, k1, h2⟩ := hasL_cons h2
  obtain ⟨_, _, rfl, k2, h2⟩ := hasL_cons h2
  obtain rfl := hasL_nil h2
  obtain ⟨x0, rfl, -⟩ := has_i k1
  obtain ⟨x1, rfl, -⟩ := has_i k2
  exact law_calls tok (val1 js t t' ls x0 x1) (us := [v0, v1, v2]) (Live.swf W) (fun g v k h => by cases h) rfl (fun j hj hj' => by
    match j, hj with
    | 0, _ => exact r0
    | 1, _ => exact r1
    | 2, _ => exact r2)
theorem door_met (os : Os) (args : Array Value) : laidMetH Tryd.prog Rows.backdateEventsRow.laid ((World.doorLaid Tryd.prog 2000 os).forCall (fun _ _ => 0) ⟨#[], args, []⟩).memory :=
  laidMetH_of_parts3 (fuel := 8) (laidMet_of_run' 8 (by kernel_rfl) (by kernel_rfl)) (by kernel_rfl) (by kernel_rfl)
theorem lifted (os : Os) (started : os.Started) (H : Type) (enc : TypeId × Value → H) :
    ReturnsInHanded {} Tryd.checked os 3 .any (fun w args => (Rows.backdateEventsSpec.pre enc Tryd.prog Tryd.f3 [] false w args ∧ laidMetH Tryd.prog Rows.backdateEventsRow.laid w) ∧ sizedMet enc Tryd.prog Tryd.f3 (OpenSpec.ofChange Rows.backdateEventsSpec) false w args)
      (Rows.backdateEventsSpec.post enc Tryd.prog Tryd.f3 false true false false) := by
  refine returnsInHanded_of_change_and (C := Tryd.checked) (X := fun w _ => laidMetH Tryd.prog Rows.backdateEventsRow.laid w) (fun _ _ _ hh h => h.of_heap hh) own started (by kernel_rfl) Tryd.func3
    (ChangeSpec.witness_shaped (enc := enc) (C := Tryd.checked) (os := os) (X := fun w _ => laidMetH Tryd.prog Rows.backdateEventsRow.laid w) false (World.doorLaid Tryd.prog 2000 os) #[.slice none 0 0, .slice none 0 0, .agg #[.int .i64 0, .int .i64 0]] 8 rfl (World.shaped_of_RefB (by kernel_rfl) (by kernel_rfl)) (by kernel_rfl) (by kernel_rfl) (by kernel_rfl) (door_met os _)) ?_
  intro W base args ds gs before hval0 hW _ _ _ _
  have hval : ∀ (j : Nat) t v, Tryd.f3.params[j]? = some t → args[j]? = some v → Value.okWide Tryd.prog W .any base t v := hval0
  have hW' := hW
  obtain ⟨p, q, hA0, hV, rfl, hfz, hnd⟩ := hW
  have hA : DataW.TrodAll enc Tryd.prog W 0 (fun _ => true) true Tryd.f3.params.toList args.toList ds p := hA0
  rw [Tryd.params3] at hA hval
  obtain ⟨v0, v1, v2, d0, d1, d2, p0, p1, p2, rfl, rfl, rfl, h0, h1, h2⟩ := trodAll_three hA
  obtain ⟨rfl, rfl⟩ := trodVars_none hV
  obtain ⟨xs0, x0, a0, b0, c0⟩ := arg_data (n := 8) (hval 0 22 v0 rfl rfl) h0 (by kernel_rfl : tyOf Tryd.prog 8 22 = some [.l (some 10) entryTy]) (by kernel_rfl : kq Tryd.prog 22 = some none)
  obtain ⟨xs1, x1, a1, b1, c1⟩ := arg_data (n := 8) (hval 1 23 v1 rfl rfl) h1 (by kernel_rfl : tyOf Tryd.prog 8 23 = some [.l (some 11) periodTy]) (by kernel_rfl : kq Tryd.prog 23 = some none)
  obtain ⟨xs2, x2, a2, b2, c2⟩ := arg_data (n := 8) (hval 2 24 v2 rfl rfl) h2 (by kernel_rfl : tyOf Tryd.prog 8 24 = some [.i .i64, .i .i64]) (by kernel_rfl : kq Tryd.prog 24 = some (some 2))
  exact law_post (tb := 4) laidOut (by kernel_rfl) (by kernel_rfl) (by kernel_rfl) rfl ⟨rfl, rfl, rfl⟩ hW' (law W v0 v1 v2 x0 x1 x2 xs0 xs1 xs2 a0 a1 a2 b0 b1 b2 c0 c1 c2)
theorem backdateEvents_holds : Rows.BackdateEventsSaid :=
  OpenClaim.holds_of_wide 3 Tryd.f3 rfl rfl rfl rfl rfl rfl rfl ⟨rfl, rfl, rfl, rfl, rfl⟩ rfl rfl rfl rfl rfl (by kernel_rfl) Tryd.func3 (by kernel_rfl)
    (of_decide_eq_true (by kernel_rfl)) (by unfold Func.isWrapper; first | (rw [if_pos (by decide +kernel)]; kernel_rfl) | (rw [if_neg (by decide +kernel)]; exact ⟨rfl, rfl⟩))
    (fun os started H enc _ => lifted os started H enc)
theorem backdateEvents_card : Rows.BackdateEventsCardSaid :=
  Claim7.holds_tied_plain_at .later [] [.data] true (true, "ed12f6f7cc0695f0b95c144c9d5b525bf459e49cc305d78a86108b293de8a954") false
    backdateEvents_holds (fun _ h => by cases h) (by kernel_rfl) (fun _ h => by cases h) backdateEvents_row_tie rfl ⟨rfl, rfl⟩ (by kernel_rfl) rfl
    (fun f fn hf hfn => by
      obtain rfl : f = 3 := Option.some.inj ((show Tryd.prog.funcNamed "corebank/corebanklaw30.BackdateEvents" = some 3 by kernel_rfl).symm.trans hf) |>.symm
      obtain rfl : fn = Tryd.f3 := (Option.some.inj (Tryd.func3.symm.trans hfn)).symm
      exact ⟨by kernel_rfl, fun j t ht => by
        rw [Tryd.params3] at ht
        have hm : t ∈ [22, 23, 24] := by simpa using Array.mem_of_getElem? ht
        have hall : ([22, 23, 24].all fun u => !Tryd.prog.wantsStandIn u) = true := by kernel_rfl
        exact (show Tryd.prog.wantsStandIn t = false by simpa using List.all_eq_true.1 hall t hm)⟩)
    (by kernel_rfl)
#print axioms backdateEvents_card
end Go.Proofs.YtbbboagbgimaaaaDoor
