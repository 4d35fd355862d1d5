/- Part 16 of the proof: CbL25E, CbSimH, CbLaw25E. -/
import Derived.Test.YtkijgkjjbanipaaGreatDoorB14
import Derived.Test.YtkijgkjjbanipaaGreatDoorB15
import Derived.Test.YtkijgkjjbanipaaGreatDoorB8
import Derived.Carry
import Derived.Handed
import Derived.ProofKit
import Derived.LaidMore
import Derived.Stop.Joined
import Derived.Test.YtkijgkjjbanipaaGreatDoorB13
set_option linter.all false
section
namespace Go.Sim
set_option maxRecDepth 100000
theorem all0 : tabU.All fun n F => TA25Em2.F n = some F := ⟨rfl, ⟨rfl, ⟨rfl, ⟨rfl, ⟨rfl, ⟨rfl, trivial, trivial⟩, trivial⟩, ⟨rfl, trivial, trivial⟩⟩, ⟨rfl, ⟨rfl, ⟨rfl, trivial, trivial⟩, trivial⟩, ⟨rfl, trivial, trivial⟩⟩⟩, ⟨rfl, ⟨rfl, ⟨rfl, ⟨rfl, trivial, trivial⟩, trivial⟩, ⟨rfl, trivial, trivial⟩⟩, ⟨rfl, ⟨rfl, trivial, trivial⟩, ⟨rfl, trivial, trivial⟩⟩⟩⟩, ⟨rfl, ⟨rfl, ⟨rfl, ⟨rfl, ⟨rfl, trivial, trivial⟩, trivial⟩, ⟨rfl, trivial, trivial⟩⟩, ⟨rfl, ⟨rfl, ⟨rfl, trivial, trivial⟩, trivial⟩, ⟨rfl, trivial, trivial⟩⟩⟩, ⟨rfl, ⟨rfl, ⟨rfl, ⟨rfl, trivial, trivial⟩, trivial⟩, ⟨rfl, trivial, trivial⟩⟩, ⟨rfl, ⟨rfl, trivial, trivial⟩, ⟨rfl, trivial, trivial⟩⟩⟩⟩⟩
theorem h0 : HU TA25Em2 := fun _ _ h => PT.get_all h all0
theorem all1 : tabV.All fun n F => TA25Em2.F n = some F := ⟨rfl, ⟨rfl, ⟨rfl, ⟨rfl, ⟨rfl, ⟨rfl, trivial, trivial⟩, trivial⟩, ⟨rfl, trivial, trivial⟩⟩, ⟨rfl, ⟨rfl, trivial, trivial⟩, ⟨rfl, trivial, trivial⟩⟩⟩, ⟨rfl, ⟨rfl, ⟨rfl, ⟨rfl, trivial, trivial⟩, trivial⟩, ⟨rfl, trivial, trivial⟩⟩, ⟨rfl, ⟨rfl, trivial, trivial⟩, ⟨rfl, trivial, trivial⟩⟩⟩⟩, ⟨rfl, ⟨rfl, ⟨rfl, ⟨rfl, ⟨rfl, trivial, trivial⟩, trivial⟩, ⟨rfl, trivial, trivial⟩⟩, ⟨rfl, ⟨rfl, trivial, trivial⟩, ⟨rfl, trivial, trivial⟩⟩⟩, ⟨rfl, ⟨rfl, ⟨rfl, ⟨rfl, trivial, trivial⟩, trivial⟩, ⟨rfl, trivial, trivial⟩⟩, ⟨rfl, ⟨rfl, trivial, trivial⟩, ⟨rfl, trivial, trivial⟩⟩⟩⟩⟩
theorem h1 : HV TA25Em2 := fun _ _ h => PT.get_all h all1
theorem law25E (b : ABooks) (hb : b.ok) (i d a : Int) : TA25Em2.val 1084 [b.dv, .a [I i, I d, I a]] = some (.d (.b true), false) := law1084 TA25Em2 h0 h1 awake b hb i d a
end Go.Sim
end
section
open Go.RowKit Go.WideShapes Go.ChangeShapes
namespace Go.Sim
section
variable {H : Type} {enc : TypeId × Value → H} {P : Program}
theorem trodAll_stays (hl : laidOutB P = true) {W W' : World} (hb : Below W.heap.size W W') : ∀ {ts : List TypeId} {vs : List Value} {ds : List (DataW H)} {ps : List MemPlace},
  (ts.all fun t => P.readableRec t && decide (t < P.types.size)) = true → (∀ x ∈ ps, x.block < W.heap.size) →
  DataW.TrodAll enc P W 0 (fun _ => true) true ts vs ds ps → DataW.TrodAll enc P W' 0 (fun b => decide (b < W.heap.size)) true ts vs ds ps
 | [], [], [], ps, _, _, h => h
 | t :: ts, v :: vs, d :: ds, ps, hr, hlt, h => by
  obtain ⟨p, q, h1, h2, rfl⟩ := h
  simp only [List.all_cons, Bool.and_eq_true, decide_eq_true_eq] at hr
  exact ⟨p, q, Below.trod hl hr.1.1 hr.1.2 h1 hb (fun x hx => hlt x (List.mem_append_left _ hx)), trodAll_stays hl hb (by simpa using hr.2) (fun x hx => hlt x (List.mem_append_right _ hx)) h2, rfl⟩
 | [], [], _ :: _, _, _, _, h => h.elim
 | [], _ :: _, _, _, _, _, h => h.elim
 | _ :: _, [], _, _, _, _, h => h.elim
 | _ :: _, _ :: _, [], _, _, _, h => h.elim
theorem law_post {f : FuncId} {fn : Func} {s : ChangeSpec} {apart fresh handsOn : Bool} {W : World} {args : Array Value} {ds gs : List (DataW H)} {before : List MemPlace} {tb : TypeId}
  (hl : laidOutB P = true) (hpr : (fn.params.toList.all fun t => P.readableRec t && decide (t < P.types.size)) = true) (hrt : fn.resultTypes = #[tb]) (htb : P.underlying tb = some .bool) (hv : s.vars = [])
  (hfn : (s.fn H (ds ++ gs)).results = [.lit (.bool true)] ∧ (s.fn H (ds ++ gs)).args = ds ∧ (s.fn H (ds ++ gs)).vars = [])
  (hW : DataW.Whole enc P fn.params.toList s.vars apart W args.toList ds gs before)
  (hc : Calls P f args W fun e W' => e = .returned (.bool true) ∧ Below W.heap.size W W') :
  Calls P f args W fun e W' => ∃ v, e = .returned v ∧ s.post enc P fn apart fresh handsOn false W args v W' := by
 refine hc.mono ?_
 rintro e W' ⟨rfl, hb⟩
 refine ⟨_, rfl, ?_⟩
 have hlt := hW.lt
 obtain ⟨p, q, h1, h2, rfl, h4, h5⟩ := id hW
 refine ⟨ds, gs, p ++ q, [], p, [], hW, ?_, ?_, ?_, hb.frame _, fun h => by cases h⟩
 ·rw [hfn.1, hrt]
  exact ⟨[], [], shut_bool htb true, rfl, rfl⟩
 ·rw [hfn.2.1]
  exact trodAll_stays hl hb hpr (fun x hx => hlt x (List.mem_append_left _ hx)) h1
 ·rw [hfn.2.2, hv]
  rfl
theorem arg_data {W : World} {r : Reach} {b0 : Nat} {sp : Nat → Bool} {held : Bool} {t : TypeId} {v : Value} {d : DataW H} {ps : List MemPlace} {n : Nat} {ts : List Ty} {k : K}
  (hval : Value.okWide P W r b0 t v) (h : DataW.Trod enc P W 0 sp held t v d ps) (ht : tyOf P n t = some ts) (hk : kq P t = some k) :
  ∃ xs e, mkD k xs = some e ∧ HasL ts xs ∧ RelD W (Live W) e v := by
 obtain ⟨fuel, h⟩ := h
 have hc := cr_of n h ht
 have one : ∀ {v : Value}, CR W ts [v] → ∃ xs e, mkD none xs = some e ∧ HasL ts xs ∧ RelD W (Live W) e v := by
  intro v hc
  obtain ⟨xs, h1, h2, h3⟩ := hc.data
  match xs, h2 with
  | [x], _ => exact ⟨[x], x, rfl, h1, h3 0 (by simp) (by simp)⟩
 have many : ∀ {cs : Array Value}, CR W ts cs.toList → kq P t = some (some (P.cellsOf t)) → cs.size = P.cellsOf t → v = .agg cs → ∃ xs e, mkD k xs = some e ∧ HasL ts xs ∧ RelD W (Live W) e v := by
  intro cs hc hk' hn hv
  obtain rfl := Option.some.inj (hk.symm.trans hk')
  obtain ⟨xs, h1, h2, h3⟩ := hc.data
  refine ⟨xs, .a xs, by simp [mkD, h2, hn], h1, ?_⟩
  subst hv
  obtain ⟨cs⟩ := cs
  exact .a xs cs h2 hc.flat h3
 unfold kq at hk many
 unfold Value.okWide at hval
 split at hval
 ·rename_i fs hu
  obtain ⟨cs, rfl, hn, -⟩ := hval
  exact many (by simpa [Value.cells] using hc) (by rw [hu]) hn rfl
 ·rename_i m e hu
  obtain ⟨cs, rfl, hn, -⟩ := hval
  exact many (by simpa [Value.cells] using hc) (by rw [hu]) hn rfl
 ·rename_i hns hna
  split at hk
  ·rename_i fs hu; exact absurd hu (hns fs)
  ·rename_i m e hu; exact absurd hu (hna m e)
  ·split at hk
   ·cases hk
    cases v with
    | agg cs =>
     exfalso
     unfold Cell.okWide Cell.ok at hval
     split at hval <;> simp_all
    | _ => exact one (by simpa [Value.cells] using hc)
   ·cases hk
  ·cases hk
end
end Go.Sim
end
section
open Go Go.Sim Go.RowKit
namespace Go.Proofs.YtkijgkjjbanipaaGreatDoor
set_option maxRecDepth 100000
theorem gok {W : World} {laid : List (String × DataW Unit)} (h : laidMet Tryz.prog laid W) (hm0 : ("internal/strconv.uint64pow10", (.agg (Lib.pow10Tab.map fun z => .lit (.int .u64 z)) : DataW Unit)) ∈ laid) (hm4 : ("strings.asciiSpace", (.agg (asciiL.map fun z => .lit (.int .u8 z)) : DataW Unit)) ∈ laid) : GOK nm TA25Em2.G W (Live W) := by
 refine gok_of (gs := gsL) (by kernel_rfl) ?_
 intro x hx v k hv
 simp only [glL, List.mem_cons, List.not_mem_nil, or_false] at hx
 rcases hx with rfl | rfl | rfl
 ·have hv : (some (DV.a (Lib.pow10Tab.map fun z => DV.i .u64 z), (some 20 : K))) = some (v, k) := hv
  cases hv
  exact gok_ints h hm0 (by kernel_rfl : Tryz.prog.globalNamed "internal/strconv.uint64pow10" = some 8) (by kernel_rfl : (Tryz.prog.globals[8]?).map (·.type) = some 376) Tryz.underlying376 Tryz.underlying49 (by kernel_rfl) (by kernel_rfl) (by decide)
 ·have hv : (none : Option (DV × K)) = some (v, k) := hv
  cases hv
 ·have hv : (some (DV.a (asciiL.map fun z => DV.i .u8 z), (some 256 : K))) = some (v, k) := hv
  cases hv
  exact gok_ints h hm4 (by kernel_rfl : Tryz.prog.globalNamed "strings.asciiSpace" = some 2) (by kernel_rfl : (Tryz.prog.globals[2]?).map (·.type) = some 331) Tryz.underlying331 Tryz.underlying5 (by kernel_rfl) (by kernel_rfl) (by decide)
theorem law (W : World) (v0 v1 : Value) (d0 d1 : DV) (xs0 xs1 : List DV) (e0 : mkD (some 22) xs0 = some d0) (e1 : mkD (some 3) xs1 = some d1)
  (h0 : HasL ABooks.ty xs0) (h1 : HasL [.i .i64, .i .i64, .i .i64] xs1)
  (r0 : RelD W (Live W) d0 v0) (r1 : RelD W (Live W) d1 v1) (hg : GOK nm TA25Em2.G W (Live W)) :
  Calls Tryz.prog 3 #[v0, v1] W fun e W' => e = .returned (.bool true) ∧ Below W.heap.size W W' := by
 obtain rfl := mkD_some e0
 obtain ⟨x0, ex0, o0⟩ := ABooks.of xs0 h0
 rw [ex0] at r0
 obtain rfl := mkD_some e1
 obtain ⟨_, _, rfl, k1_0, h1⟩ := hasL_cons h1
 obtain ⟨_, _, rfl, k1_1, h1⟩ := hasL_cons h1
 obtain ⟨_, _, rfl, k1_2, h1⟩ := hasL_cons h1
 obtain rfl := hasL_nil h1
 obtain ⟨y1_0, rfl, q1_0⟩ := has_i k1_0
 obtain ⟨y1_1, rfl, q1_1⟩ := has_i k1_1
 obtain ⟨y1_2, rfl, q1_2⟩ := has_i k1_2
 exact law_calls tok (law25E x0 o0 y1_0 y1_1 y1_2) (us := [v0, v1]) (Live.swf W) hg rfl (fun j hj hj' => by
  match j, hj with
  | 0, _ => exact r0
  | 1, _ => exact r1)
end Go.Proofs.YtkijgkjjbanipaaGreatDoor
end
