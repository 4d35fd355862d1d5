/- Part 14 of the proof: CbL29E, CbSimLe, CbSimH, CbLaw29E. -/
import Derived.Test.YtakfofnggifenaaGreatDoorB12
import Derived.Test.YtakfofnggifenaaGreatDoorB13
import Derived.Test.YtakfofnggifenaaGreatDoorB8
import Derived.ChangeSame
import Derived.Carry
import Derived.Handed
import Derived.ProofKit
import Derived.LaidMore
import Derived.Stop.Joined
section
namespace Go.Sim
set_option maxRecDepth 100000
theorem all0 : tabV.All fun n F => TA29Em1.F n = some F := ⟨rfl, ⟨rfl, ⟨rfl, ⟨rfl, trivial, trivial⟩, trivial⟩, ⟨rfl, ⟨rfl, trivial, trivial⟩, trivial⟩⟩, ⟨rfl, ⟨rfl, ⟨rfl, trivial, trivial⟩, trivial⟩, ⟨rfl, trivial, trivial⟩⟩⟩
theorem h0 : HV TA29Em1 := fun _ _ h => PT.get_all h all0
theorem all1 : tabS.All fun n F => TA29Em1.F n = some F := ⟨rfl, ⟨rfl, ⟨rfl, ⟨rfl, trivial, trivial⟩, trivial⟩, ⟨rfl, ⟨rfl, trivial, trivial⟩, trivial⟩⟩, ⟨rfl, ⟨rfl, ⟨rfl, trivial, trivial⟩, trivial⟩, ⟨rfl, ⟨rfl, trivial, trivial⟩, trivial⟩⟩⟩
theorem h1 : HS TA29Em1 := fun _ _ h => PT.get_all h all1
theorem law29E (ev id lo hi : Int) (l : List APeriod) (t : Bool) : TA29Em1.val 1115 [I ev, .a [I id, I lo, I hi], .l (K1 11) (l.map APeriod.dv) t] = some (.d (.b true), false) := law1115 TA29Em1 h0 h1 awake ev id lo hi l t
end Go.Sim
end
section
open Go.RowKit Go.ChangeShapes
namespace Go.Sim
variable {P : Program} {W : World}
theorem pairs_list {k : IntKind} : ∀ (zs : List (Int × Int)) (l : List Value), l.length = 2 * zs.length → (∀ j (hj : j < zs.length), (l.drop (j * 2)).take 2 = [.int k zs[j].1, .int k zs[j].2]) → l = ((zs.flatMap fun z => [z.1, z.2]).map fun z => (k, z)).map fun z => Value.int z.1 z.2
 | [], l, hl, _ => by simpa using hl
 | z :: zs, l, hl, h => by
  match l, hl with
  | a :: b :: l, hl =>
   have h0 := h 0 (by simp)
   simp only [Nat.zero_mul, List.drop_zero, List.take_succ_cons, List.take_zero, List.getElem_cons_zero, List.cons.injEq, and_true] at h0
   have ih := pairs_list zs l (by simp at hl; omega) fun j hj => by
    have := h (j + 1) (by simp; omega)
    rw [Nat.succ_mul] at this
    simpa using this
   rw [h0.1, h0.2]
   simp only [List.flatMap_cons, List.cons_append, List.nil_append, List.map_cons]
   rw [← ih]
theorem gok_pairs {laid : List (String × DataW Unit)} (h : laidMet P laid W) {n : String} {k : IntKind} {zs : List (Int × Int)} (hm : (n, .agg (zs.map fun z => .agg [.lit (.int k z.1), .lit (.int k z.2)])) ∈ laid) {g : Nat} (hg : P.globalNamed n = some g) {t : TypeId} (ht : (P.globals[g]?).map (·.type) = some t)
  {m : Nat} {e : TypeId} {f0 f1 : Field} (hu : P.underlying t = some (.array m e)) (he : P.underlying e = some (.struct #[f0, f1])) (o0 : f0.offset = 0) (o1 : f1.offset = 1) (he0 : P.underlying f0.type = some (.int k)) (he1 : P.underlying f1.type = some (.int k)) (hc0 : P.cellsOf f0.type = 1) (hc1 : P.cellsOf f1.type = 1) (hc : P.cellsOf e = 2) (hct : P.cellsOf t = 2 * m) (hz : 0 < zs.length) :
  (∃ e, W.shape? g = some (e, (zs.flatMap fun z => [z.1, z.2]).length)) ∧ ∃ f, At W (Live W) g 0 (zs.flatMap fun z => [z.1, z.2]).length f ∧ RelD W (Live W) (.a ((zs.flatMap fun z => [z.1, z.2]).map fun z => .i k z)) (mkV (some (zs.flatMap fun z => [z.1, z.2]).length) f) := by
 obtain ⟨cs, fuel, p, h1, h2, h3⟩ := laid_block h hm hg ht
 obtain ⟨xs, m', rfl, hx, hl, hxl, hel⟩ := DataW.trod_array hu h1
 simp only [Prod.mk.injEq, DataW.agg.injEq] at hx
 have hzl : zs.length = m := by
  have := congrArg List.length hx.1
  simp only [List.length_map] at this
  omega
 have hcs : cs.toList = ((zs.flatMap fun z => [z.1, z.2]).map fun z => (k, z)).map fun z => Value.int z.1 z.2 := by
  refine pairs_list zs cs.toList (by rw [hl, hct, hzl]) fun j hj => ?_
  have h4 := hel j (by omega)
  rw [hc, List.getElem?_eq_getElem (by omega)] at h4
  obtain ⟨y0, y1, n', e1, e2, e3, e4⟩ := trod_struct2 he h4
  rw [o0, hc0] at e3
  rw [o1, hc1] at e4
  rw [hc] at e2
  generalize (cs.toList.drop (j * 2)).take 2 = w at e2 e3 e4
  match w, e2 with
  | [a, b], _ =>
   obtain ⟨n0, a1, a2, -⟩ := DataW.trod_int he0 e3
   obtain ⟨n1, b1, b2, -⟩ := DataW.trod_int he1 e4
   simp only [List.drop_zero, List.drop_succ_cons, List.take_succ_cons, List.take_zero, List.cons.injEq, and_true] at a1 b1
   have e5 : (xs.map (·.1))[j]'(by simp; omega) = .agg [.lit (.int k n0), .lit (.int k n1)] := by simp only [List.getElem_map]; rw [e1, a2, b2]
   have e6 : (zs.map fun z => (DataW.agg [DataW.lit (.int k z.1), DataW.lit (.int k z.2)] : DataW Unit))[j]'(by simp; omega) = .agg [.lit (.int k n0), .lit (.int k n1)] := by
    rw [← e5]; congr 1; exact hx.1
   simp only [List.getElem_map] at e6
   have e7 : zs[j].1 = n0 ∧ zs[j].2 = n1 := by simpa using e6
   rw [a1, b1, e7.1, e7.2]
 have hz' : 0 < ((zs.flatMap fun z => [z.1, z.2]).map fun z => (k, z)).length := by
  cases zs with
  | nil => exact absurd hz (by simp)
  | cons z zs => simp
 have := gok_cells (W := W) rfl (g := g) hz' hcs h2 h3
 simpa only [List.length_map, List.map_map, Function.comp_def] using this
def stepsL : List (Int × Int) := [(0, 0), (1, 0), (0, 1), (0, 0), (1, 1)]
end Go.Sim
end
section
open Go.RowKit Go.WideShapes Go.ChangeShapes
namespace Go.Sim
section
variable {H : Type} {enc : TypeId × Value → H} {P : Program}
theorem trodAll_stays (hl : laidOutB P = true) {W W' : World} (hb : Below W.heap.size W W') : ∀ {ts : List TypeId} {vs : List Value} {ds : List (DataW H)} {ps : List MemPlace},
  (ts.all fun t => P.readableRec t && decide (t < P.types.size)) = true → (∀ x ∈ ps, x.block < W.heap.size) →
  DataW.TrodAll enc P W 0 (fun _ => true) true ts vs ds ps → DataW.TrodAll enc P W' 0 (fun b => decide (b < W.heap.size)) true ts vs ds ps
 | [], [], [], ps, _, _, h => h
 | t :: ts, v :: vs, d :: ds, ps, hr, hlt, h => by
  obtain ⟨p, q, h1, h2, rfl⟩ := h
  simp only [List.all_cons, Bool.and_eq_true, decide_eq_true_eq] at hr
  exact ⟨p, q, Below.trod hl hr.1.1 hr.1.2 h1 hb (fun x hx => hlt x (List.mem_append_left _ hx)), trodAll_stays hl hb (by simpa using hr.2) (fun x hx => hlt x (List.mem_append_right _ hx)) h2, rfl⟩
 | [], [], _ :: _, _, _, _, h => h.elim
 | [], _ :: _, _, _, _, _, h => h.elim
 | _ :: _, [], _, _, _, _, h => h.elim
 | _ :: _, _ :: _, [], _, _, _, h => h.elim
theorem law_post {f : FuncId} {fn : Func} {s : ChangeSpec} {apart fresh handsOn : Bool} {W : World} {args : Array Value} {ds gs : List (DataW H)} {before : List MemPlace} {tb : TypeId}
  (hl : laidOutB P = true) (hpr : (fn.params.toList.all fun t => P.readableRec t && decide (t < P.types.size)) = true) (hrt : fn.resultTypes = #[tb]) (htb : P.underlying tb = some .bool) (hv : s.vars = [])
  (hfn : (s.fn H (ds ++ gs)).results = [.lit (.bool true)] ∧ (s.fn H (ds ++ gs)).args = ds ∧ (s.fn H (ds ++ gs)).vars = [])
  (hW : DataW.Whole enc P fn.params.toList s.vars apart W args.toList ds gs before)
  (hc : Calls P f args W fun e W' => e = .returned (.bool true) ∧ Below W.heap.size W W') :
  Calls P f args W fun e W' => ∃ v, e = .returned v ∧ s.post enc P fn apart fresh handsOn false W args v W' := by
 refine hc.mono ?_
 rintro e W' ⟨rfl, hb⟩
 refine ⟨_, rfl, ?_⟩
 have hlt := hW.lt
 obtain ⟨p, q, h1, h2, rfl, h4, h5⟩ := id hW
 refine ⟨ds, gs, p ++ q, [], p, [], hW, ?_, ?_, ?_, hb.frame _, fun h => by cases h⟩
 ·rw [hfn.1, hrt]
  exact ⟨[], [], shut_bool htb true, rfl, rfl⟩
 ·rw [hfn.2.1]
  exact trodAll_stays hl hb hpr (fun x hx => hlt x (List.mem_append_left _ hx)) h1
 ·rw [hfn.2.2, hv]
  rfl
theorem arg_data {W : World} {r : Reach} {b0 : Nat} {sp : Nat → Bool} {held : Bool} {t : TypeId} {v : Value} {d : DataW H} {ps : List MemPlace} {n : Nat} {ts : List Ty} {k : K}
  (hval : Value.okWide P W r b0 t v) (h : DataW.Trod enc P W 0 sp held t v d ps) (ht : tyOf P n t = some ts) (hk : kq P t = some k) :
  ∃ xs e, mkD k xs = some e ∧ HasL ts xs ∧ RelD W (Live W) e v := by
 obtain ⟨fuel, h⟩ := h
 have hc := cr_of n h ht
 have one : ∀ {v : Value}, CR W ts [v] → ∃ xs e, mkD none xs = some e ∧ HasL ts xs ∧ RelD W (Live W) e v := by
  intro v hc
  obtain ⟨xs, h1, h2, h3⟩ := hc.data
  match xs, h2 with
  | [x], _ => exact ⟨[x], x, rfl, h1, h3 0 (by simp) (by simp)⟩
 have many : ∀ {cs : Array Value}, CR W ts cs.toList → kq P t = some (some (P.cellsOf t)) → cs.size = P.cellsOf t → v = .agg cs → ∃ xs e, mkD k xs = some e ∧ HasL ts xs ∧ RelD W (Live W) e v := by
  intro cs hc hk' hn hv
  obtain rfl := Option.some.inj (hk.symm.trans hk')
  obtain ⟨xs, h1, h2, h3⟩ := hc.data
  refine ⟨xs, .a xs, by simp [mkD, h2, hn], h1, ?_⟩
  subst hv
  obtain ⟨cs⟩ := cs
  exact .a xs cs h2 hc.flat h3
 unfold kq at hk many
 unfold Value.okWide at hval
 split at hval
 ·rename_i fs hu
  obtain ⟨cs, rfl, hn, -⟩ := hval
  exact many (by simpa [Value.cells] using hc) (by rw [hu]) hn rfl
 ·rename_i m e hu
  obtain ⟨cs, rfl, hn, -⟩ := hval
  exact many (by simpa [Value.cells] using hc) (by rw [hu]) hn rfl
 ·rename_i hns hna
  split at hk
  ·rename_i fs hu; exact absurd hu (hns fs)
  ·rename_i m e hu; exact absurd hu (hna m e)
  ·split at hk
   ·cases hk
    cases v with
    | agg cs =>
     exfalso
     unfold Cell.okWide Cell.ok at hval
     split at hval <;> simp_all
    | _ => exact one (by simpa [Value.cells] using hc)
   ·cases hk
  ·cases hk
end
end Go.Sim
end
section
open Go Go.Sim Go.RowKit
namespace Go.Proofs.YtakfofnggifenaaGreatDoor
set_option maxRecDepth 100000
theorem gok {W : World} {laid : List (String × DataW Unit)} (h : laidMet Tryz.prog laid W) (hm0 : ("internal/strconv.uint64pow10", (.agg (Lib.pow10Tab.map fun z => .lit (.int .u64 z)) : DataW Unit)) ∈ laid) (hm1 : ("corebank/rounding.steps", (.agg (stepsL.map fun z => .agg [.lit (.int .i64 z.1), .lit (.int .i64 z.2)]) : DataW Unit)) ∈ laid) : GOK nm TA29Em1.G W (Live W) := by
 refine gok_of (gs := gsL) (by kernel_rfl) ?_
 intro x hx v k hv
 simp only [glL, List.mem_cons, List.not_mem_nil, or_false] at hx
 rcases hx with rfl | rfl | rfl
 ·have hv : (some (DV.a (Lib.pow10Tab.map fun z => DV.i .u64 z), (some 20 : K))) = some (v, k) := hv
  cases hv
  exact gok_ints h hm0 (by kernel_rfl : Tryz.prog.globalNamed "internal/strconv.uint64pow10" = some 1) (by kernel_rfl : (Tryz.prog.globals[1]?).map (·.type) = some 222) Tryz.underlying222 Tryz.underlying26 (by kernel_rfl) (by kernel_rfl) (by decide)
 ·have hv : (some (DV.a ((stepsL.flatMap fun z => [z.1, z.2]).map fun z => DV.i .i64 z), (some 10 : K))) = some (v, k) := hv
  cases hv
  exact gok_pairs h hm1 (by kernel_rfl : Tryz.prog.globalNamed "corebank/rounding.steps" = some 0) (by kernel_rfl : (Tryz.prog.globals[0]?).map (·.type) = some 206) Tryz.underlying206 Tryz.underlying205 rfl rfl Tryz.underlying3 Tryz.underlying3 (by kernel_rfl) (by kernel_rfl) (by kernel_rfl) (by kernel_rfl) (by decide)
 ·have hv : (none : Option (DV × K)) = some (v, k) := hv
  cases hv
theorem law (W : World) (v0 v1 v2 : Value) (d0 d1 d2 : DV) (xs0 xs1 xs2 : List DV) (e0 : mkD none xs0 = some d0) (e1 : mkD (some 3) xs1 = some d1) (e2 : mkD none xs2 = some d2)
  (h0 : HasL [.i .i64] xs0) (h1 : HasL [.i .i64, .i .i64, .i .i64] xs1) (h2 : HasL [.l (K1 11) APeriod.ty] xs2)
  (r0 : RelD W (Live W) d0 v0) (r1 : RelD W (Live W) d1 v1) (r2 : RelD W (Live W) d2 v2) (hg : GOK nm TA29Em1.G W (Live W)) :
  Calls Tryz.prog 3 #[v0, v1, v2] W fun e W' => e = .returned (.bool true) ∧ Below W.heap.size W W' := by
 obtain rfl := mkD_none e0
 obtain ⟨_, _, g0, h0, -⟩ := hasL_cons h0
 cases g0
 obtain ⟨x0, rfl, p0⟩ := has_i h0
 obtain rfl := mkD_some e1
 obtain ⟨_, _, rfl, k1_0, h1⟩ := hasL_cons h1
 obtain ⟨_, _, rfl, k1_1, h1⟩ := hasL_cons h1
 obtain ⟨_, _, rfl, k1_2, h1⟩ := hasL_cons h1
 obtain rfl := hasL_nil h1
 obtain ⟨y1_0, rfl, q1_0⟩ := has_i k1_0
 obtain ⟨y1_1, rfl, q1_1⟩ := has_i k1_1
 obtain ⟨y1_2, rfl, q1_2⟩ := has_i k1_2
 obtain rfl := mkD_none e2
 obtain ⟨_, _, g2, h2, -⟩ := hasL_cons h2
 cases g2
 obtain ⟨x2, rfl, o2⟩ := (fun h => to_l h APeriod.of) h2
 exact law_calls tok (law29E x0 y1_0 y1_1 y1_2 x2.l x2.t) (us := [v0, v1, v2]) (Live.swf W) hg rfl (fun j hj hj' => by
  match j, hj with
  | 0, _ => exact r0
  | 1, _ => exact r1
  | 2, _ => exact r2)
end Go.Proofs.YtakfofnggifenaaGreatDoor
end
