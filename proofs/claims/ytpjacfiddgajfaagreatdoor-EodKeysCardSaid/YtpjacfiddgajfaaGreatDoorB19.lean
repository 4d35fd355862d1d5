/- Part 19 of the proof: CbK52z, CbTy, CbSimI, CbTo, CbSimH. -/
import Derived.Test.YtpjacfiddgajfaaGreatDoorB17
import Derived.Test.YtpjacfiddgajfaaGreatDoorB18
import Derived.Test.YtpjacfiddgajfaaGreatDoorB2
import Derived.Test.YtpjacfiddgajfaaGreatDoorB1
import Derived.Test.YtpjacfiddgajfaaGreatDoorB10
import Derived.Carry
import Derived.Handed
import Derived.ProofKit
import Derived.LaidMore
import Derived.Stop.Joined
section
namespace Go.Sim
theorem keys (T : Tab) (h517 : T.F 517 = some F517) (hX : T.X 109 = itoaX) (h109 : T.F 109 = none) (h561 : T.F 561 = some F561) (h1011 : T.F 1011 = some F1011) (h781 : T.F 781 = some F781) (h1009 : T.F 1009 = some F1009) (h1008 : T.F 1008 = some F1008) (ha : T.val 1010 [] = some (.d (.b true), false))
  (d s h n : Int) (hd : inI d) (hs : inI s) (hh : inI h) (hn : inI n) : T.val 1008 [I d, .a [I s, I h], I n] = some (.d (.b true), false) := by
 have ib : ∀ m, inI m → T.val 109 [I m] = some (.d (.s (Go.Lib.itoa m)), false) := fun m hm => by rw [← itoaB_eq hm.1 hm.2]; exact itoa52 T m h109 hX hm
 have nb : ∀ m, inI m → T.val 517 [I m] = some (.d (.s (Go.Lib.itoa m)), false) := fun m hm => num517 T h517 _ m (Nat.le_refl _) hm
 have l1 := itoa_len hd
 have l2 := itoa_len hs
 have l3 := itoa_len hh
 have l4 := itoa_len hn
 have p1 := val561 T d s h _ _ _ l1 l2 l3 h561 (ib d hd) (ib s hs) (ib h hh)
 have p2 := val1011 T d s h _ _ _ l1 l2 l3 h1011 (nb d hd) (nb s hs) (nb h hh)
 have k1 := val781 T d s h n _ _ _ _ l1 l2 l3 l4 h781 p1 (ib n hn)
 have k2 := val1009 T d s h n _ _ _ _ l1 l2 l3 l4 h1009 p2 (nb n hn)
 rw [val_eq T h1008]
 simp [F1008, envv, k1, k2, ha, eqS_refl]
theorem val_keys (d s h n : Int) (hd : inI d) (hs : inI s) (hh : inI h) (hn : inI n) : TA52m1.val 1008 [I d, .a [I s, I h], I n] = some (.d (.b true), false) :=
 keys TA52m1 rfl rfl rfl rfl rfl rfl rfl rfl awake d s h n hd hs hh hn
end Go.Sim
end
section
namespace Go.Sim
end Go.Sim
end
section
namespace Go.Sim
theorem hasL_cons {t : Ty} {ts : List Ty} {xs : List DV} (h : HasL (t :: ts) xs) : ∃ x r, xs = x :: r ∧ Has t x ∧ HasL ts r := by
 cases xs with
 | nil => simp [HasL] at h
 | cons x r => rw [HasL] at h; exact ⟨x, r, rfl, h.1, h.2⟩
theorem hasL_nil {xs : List DV} (h : HasL [] xs) : xs = [] := by
 cases xs with
 | nil => rfl
 | cons x r => simp [HasL] at h
theorem has_i {k : IntKind} {x : DV} (h : Has (.i k) x) : ∃ n, x = .i k n ∧ (Lit.int k n).wf = true := by rw [Has] at h; exact h
theorem mkD_some {n : Nat} {xs : List DV} {e : DV} (h : mkD (some n) xs = some e) : e = .a xs := by
 simp only [mkD] at h
 split at h
 ·cases h; rfl
 ·cases h
theorem mkD_none {xs : List DV} {e : DV} (h : mkD none xs = some e) : xs = [e] := by
 simp only [mkD] at h
 split at h
 ·cases h; rfl
 ·cases h
end Go.Sim
end
section
namespace Go.Sim
end Go.Sim
end
section
open Go.RowKit Go.WideShapes Go.ChangeShapes
namespace Go.Sim
section
variable {H : Type} {enc : TypeId × Value → H} {P : Program}
theorem trodAll_stays (hl : laidOutB P = true) {W W' : World} (hb : Below W.heap.size W W') : ∀ {ts : List TypeId} {vs : List Value} {ds : List (DataW H)} {ps : List MemPlace},
  (ts.all fun t => P.readableRec t && decide (t < P.types.size)) = true → (∀ x ∈ ps, x.block < W.heap.size) →
  DataW.TrodAll enc P W 0 (fun _ => true) true ts vs ds ps → DataW.TrodAll enc P W' 0 (fun b => decide (b < W.heap.size)) true ts vs ds ps
 | [], [], [], ps, _, _, h => h
 | t :: ts, v :: vs, d :: ds, ps, hr, hlt, h => by
  obtain ⟨p, q, h1, h2, rfl⟩ := h
  simp only [List.all_cons, Bool.and_eq_true, decide_eq_true_eq] at hr
  exact ⟨p, q, Below.trod hl hr.1.1 hr.1.2 h1 hb (fun x hx => hlt x (List.mem_append_left _ hx)), trodAll_stays hl hb (by simpa using hr.2) (fun x hx => hlt x (List.mem_append_right _ hx)) h2, rfl⟩
 | [], [], _ :: _, _, _, _, h => h.elim
 | [], _ :: _, _, _, _, _, h => h.elim
 | _ :: _, [], _, _, _, _, h => h.elim
 | _ :: _, _ :: _, [], _, _, _, h => h.elim
theorem law_post {f : FuncId} {fn : Func} {s : ChangeSpec} {apart fresh handsOn : Bool} {W : World} {args : Array Value} {ds gs : List (DataW H)} {before : List MemPlace} {tb : TypeId}
  (hl : laidOutB P = true) (hpr : (fn.params.toList.all fun t => P.readableRec t && decide (t < P.types.size)) = true) (hrt : fn.resultTypes = #[tb]) (htb : P.underlying tb = some .bool) (hv : s.vars = [])
  (hfn : (s.fn H (ds ++ gs)).results = [.lit (.bool true)] ∧ (s.fn H (ds ++ gs)).args = ds ∧ (s.fn H (ds ++ gs)).vars = [])
  (hW : DataW.Whole enc P fn.params.toList s.vars apart W args.toList ds gs before)
  (hc : Calls P f args W fun e W' => e = .returned (.bool true) ∧ Below W.heap.size W W') :
  Calls P f args W fun e W' => ∃ v, e = .returned v ∧ s.post enc P fn apart fresh handsOn false W args v W' := by
 refine hc.mono ?_
 rintro e W' ⟨rfl, hb⟩
 refine ⟨_, rfl, ?_⟩
 have hlt := hW.lt
 obtain ⟨p, q, h1, h2, rfl, h4, h5⟩ := id hW
 refine ⟨ds, gs, p ++ q, [], p, [], hW, ?_, ?_, ?_, hb.frame _, fun h => by cases h⟩
 ·rw [hfn.1, hrt]
  exact ⟨[], [], shut_bool htb true, rfl, rfl⟩
 ·rw [hfn.2.1]
  exact trodAll_stays hl hb hpr (fun x hx => hlt x (List.mem_append_left _ hx)) h1
 ·rw [hfn.2.2, hv]
  rfl
theorem wts_arg {ts : List TypeId} {ds : List (DataW H)} (h : (DataW.weightsEach P ts ds).all (fun n => decide (n ≤ reachBytes)) = true) (i : Nat) {t : TypeId} {d : DataW H} (ht : ts[i]? = some t) (hd : ds[i]? = some d) : Wts P t d := by
 obtain ⟨h1, rfl⟩ := List.getElem?_eq_some_iff.1 ht
 obtain ⟨h2, rfl⟩ := List.getElem?_eq_some_iff.1 hd
 exact wts_each (fun n hn => by simpa using List.all_eq_true.1 h n hn) i h1 h2
theorem arg_data {W : World} {r : Reach} {b0 : Nat} {sp : Nat → Bool} {held : Bool} {t : TypeId} {v : Value} {d : DataW H} {ps : List MemPlace} {n : Nat} {ts : List Ty} {k : K}
  (hval : Value.okWide P W r b0 t v) (h : DataW.Trod enc P W 0 sp held t v d ps) (hw : Wts P t d) (ht : tyOf P n t = some ts) (hk : kq P t = some k) :
  ∃ xs e, mkD k xs = some e ∧ HasL ts xs ∧ RelD W (Live W) e v := by
 obtain ⟨fuel, h⟩ := h
 have hc := cr_of n h hw ht
 have one : ∀ {v : Value}, CR W ts [v] → ∃ xs e, mkD none xs = some e ∧ HasL ts xs ∧ RelD W (Live W) e v := by
  intro v hc
  obtain ⟨xs, h1, h2, h3⟩ := hc.data
  match xs, h2 with
  | [x], _ => exact ⟨[x], x, rfl, h1, h3 0 (by simp) (by simp)⟩
 have many : ∀ {cs : Array Value}, CR W ts cs.toList → kq P t = some (some (P.cellsOf t)) → cs.size = P.cellsOf t → v = .agg cs → ∃ xs e, mkD k xs = some e ∧ HasL ts xs ∧ RelD W (Live W) e v := by
  intro cs hc hk' hn hv
  obtain rfl := Option.some.inj (hk.symm.trans hk')
  obtain ⟨xs, h1, h2, h3⟩ := hc.data
  refine ⟨xs, .a xs, by simp [mkD, h2, hn], h1, ?_⟩
  subst hv
  obtain ⟨cs⟩ := cs
  exact .a xs cs h2 hc.flat h3
 unfold kq at hk many
 unfold Value.okWide at hval
 split at hval
 ·rename_i fs hu
  obtain ⟨cs, rfl, hn, -⟩ := hval
  exact many (by simpa [Value.cells] using hc) (by rw [hu]) hn rfl
 ·rename_i m e hu
  obtain ⟨cs, rfl, hn, -⟩ := hval
  exact many (by simpa [Value.cells] using hc) (by rw [hu]) hn rfl
 ·rename_i hns hna
  split at hk
  ·rename_i fs hu; exact absurd hu (hns fs)
  ·rename_i m e hu; exact absurd hu (hna m e)
  ·split at hk
   ·cases hk
    cases v with
    | agg cs =>
     exfalso
     unfold Cell.okWide Cell.ok at hval
     split at hval <;> simp_all
    | _ => exact one (by simpa [Value.cells] using hc)
   ·cases hk
  ·cases hk
end
end Go.Sim
end
