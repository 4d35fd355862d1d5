/- Part 10 of the proof: CbSimG, CbSimLd. -/
import Derived.Test.YtpjacfiddgajfaaGreatDoorB5
import Derived.ChangeArms
import Derived.OpenShut
import Derived.Deep.Slices
import Derived.WideShapes
import Derived.Test.YtpjacfiddgajfaaGreatDoorB6
import Derived.ProofKit
import Derived.LaidMore
section
open Go.RowKit Go.WideShapes Go.Deep
namespace Go.Sim
inductive Ty where
 | b
 | i (k : IntKind)
 | s
 | e
 | l (k : K) (b : Nat) (ts : List Ty)
def cap47 : Nat := 140737488355328
mutual
inductive XL : DV → Prop
 | mk (es : List DV) : es.length ≤ maxLen → (∀ e ∈ es, XE e) → es.length * 56 ≤ cap47 → XL (.l (some 4) es false)
inductive XE : DV → Prop
 | mk (o n : Int) (s : List UInt8) (a : DV) : (Lit.int .i64 o).wf = true → (Lit.int .i64 n).wf = true → s.length ≤ maxLen → XL a → XE (.a [.i .i64 o, .i .i64 n, .s s, a])
end
mutual
def Has : Ty → DV → Prop
 | .e, x => XL x
 | .b, x => ∃ c, x = .b c
 | .i k, x => ∃ n, x = .i k n ∧ (Lit.int k n).wf = true
 | .s, x => ∃ l, x = .s l ∧ l.length ≤ maxLen
 | .l k b ts, x => ∃ es, x = .l k es false ∧ es.length ≤ maxLen ∧ es.length * b ≤ cap47 ∧ ∀ e ∈ es, ∃ cs, mkD k cs = some e ∧ HasL ts cs
def HasL : List Ty → List DV → Prop
 | [], [] => True
 | t :: ts, x :: xs => Has t x ∧ HasL ts xs
 | _, _ => False
end
def tyFs (P : Program) (rec : TypeId → Option (List Ty)) : List Field → Nat → Nat → Option (List Ty)
 | [], off, n => if off = n then some [] else none
 | f :: fs, off, n => if f.offset ≠ off then none else (rec f.type).bind fun a => if a.length ≠ P.cellsOf f.type then none else (tyFs P rec fs (off + a.length) n).bind fun b => some (a ++ b)
def tyB (P : Program) (u : TypeId) : Option (List Ty) := match P.underlying u with
 | some .bool => some [.b]
 | some (.int k) => some [.i k]
 | some .string => some [.s]
 | _ => none
def isX4 : Option (List Ty) → Bool
 | some [.i .i64, .i .i64, .s, .e] => true
 | _ => false
def exprB (P : Program) (t : TypeId) : Bool := match P.underlying t with
 | some (.slice e) => decide (kq P e = some (some 4)) && (decide (P.cellsOf e = 4 ∧ P.bytesOf e = 56) && match P.underlying e with
  | some (.struct fs) => isX4 (tyFs P (fun u => if u = t then some [.e] else tyB P u) fs.toList 0 4)
  | _ => false)
 | _ => false
def tyOf (P : Program) : Nat → TypeId → Option (List Ty)
 | 0, _ => none
 | n + 1, t => match P.underlying t with
  | some .bool => some [.b]
  | some (.int k) => some [.i k]
  | some .string => some [.s]
  | some (.slice e) => if exprB P t = true then some [.e] else (kq P e).bind fun k => (tyOf P n e).bind fun ts => if ts.length = P.cellsOf e ∧ k.size = ts.length ∧ 0 < ts.length then some [.l k (P.bytesOf e) ts] else none
  | some (.struct fs) => tyFs P (tyOf P n) fs.toList 0 (P.cellsOf t)
  | some (.array m e) => (tyOf P n e).bind fun ts => if ts.length = P.cellsOf e ∧ P.cellsOf t = m * P.cellsOf e then some (List.replicate m ts).flatten else none
  | _ => none
def Live (w : World) : Stab := fun b o => ∃ v, w.cell? ⟨b, o, none⟩ = some v
theorem Live.swf (w : World) : Swf w (Live w) := fun _ _ h => h
def R1 (w : World) (t : Ty) (v : Value) : Prop := flat v ∧ ∃ x, Has t x ∧ RelD w (Live w) x v
def CR (w : World) : List Ty → List Value → Prop
 | [], [] => True
 | t :: ts, v :: vs => R1 w t v ∧ CR w ts vs
 | _, _ => False
theorem CR.append {w : World} : ∀ {ts : List Ty} {vs : List Value} {us : List Ty} {ws : List Value}, CR w ts vs → CR w us ws → CR w (ts ++ us) (vs ++ ws)
 | [], [], _, _, _, k => k
 | _ :: _, _ :: _, _, _, h, k => ⟨h.1, h.2.append k⟩
 | [], _ :: _, _, _, h, _ => h.elim
 | _ :: _, [], _, _, h, _ => h.elim
theorem CR.len {w : World} : ∀ {ts : List Ty} {vs : List Value}, CR w ts vs → ts.length = vs.length
 | [], [], _ => rfl
 | _ :: _, _ :: _, h => by simp [h.2.len]
 | [], _ :: _, h => h.elim
 | _ :: _, [], h => h.elim
theorem CR.flat {w : World} : ∀ {ts : List Ty} {vs : List Value}, CR w ts vs → ∀ v ∈ vs, flat v
 | [], [], _, v, hv => by cases hv
 | _ :: _, _ :: _, h, v, hv => by
  rcases List.mem_cons.1 hv with rfl | hv
  ·exact h.1.1
  ·exact h.2.flat v hv
 | [], _ :: _, h, _, _ => h.elim
 | _ :: _, [], h, _, _ => h.elim
theorem CR.data {w : World} : ∀ {ts : List Ty} {vs : List Value}, CR w ts vs → ∃ xs, HasL ts xs ∧ xs.length = vs.length ∧ ∀ j (h : j < xs.length) (h' : j < vs.length), RelD w (Live w) xs[j] vs[j]
 | [], [], _ => ⟨[], by simp [HasL], rfl, fun j h => by cases h⟩
 | _ :: _, _ :: _, h => by
  obtain ⟨xs, h1, h2, h3⟩ := h.2.data
  obtain ⟨-, x, h4, h5⟩ := h.1
  refine ⟨x :: xs, by rw [HasL]; exact ⟨h4, h1⟩, by simp [h2], ?_⟩
  intro j hj hj'
  cases j with
  | zero => exact h5
  | succ j => exact h3 j _ _
 | [], _ :: _, h => h.elim
 | _ :: _, [], h => h.elim
theorem CR.val {w : World} {ts : List Ty} {vs : List Value} (h : CR w ts vs) {k : K} (hk : k.size = ts.length) (c : Nat → Value) (hc : ∀ m (h : m < vs.length), c m = vs[m]) :
  ∃ xs e, mkD k xs = some e ∧ HasL ts xs ∧ RelD w (Live w) e (mkV k c) := by
 obtain ⟨xs, h1, h2, h3⟩ := h.data
 have hl := h.len
 cases k with
 | none =>
  simp only [K.size] at hk
  match xs, vs, h2 with
  | [x], [v], _ =>
   refine ⟨[x], x, rfl, h1, ?_⟩
   have := h3 0 (by simp) (by simp)
   simp only [mkV]
   rw [hc 0 (by simp)]
   exact this
  | [], [], _ => simp at hl; subst hl; simp at hk
  | _ :: _ :: _, vs, e => rw [← hl, ← hk] at e; simp at e
 | some n =>
  simp only [K.size] at hk
  have e : (List.range n).map c = vs := by
   apply List.ext_getElem
   ·simp; omega
   ·intro m hm hm'
    simp [hc m hm']
  refine ⟨xs, .a xs, by simp [mkD]; omega, h1, ?_⟩
  simp only [mkV, e]
  exact .a xs vs h2 h.flat h3
section
variable {H : Type} {enc : TypeId × Value → H} {P : Program} {w : World} {sp : Nat → Bool} {held : Bool}
def Wts (P : Program) (t : TypeId) (d : DataW H) : Prop := ∀ n ∈ d.weights P t, n ≤ reachBytes
theorem wts_all {e : TypeId} : ∀ {l : List (DataW H)}, (∀ n ∈ DataW.weightsAll P e l, n ≤ reachBytes) → ∀ d ∈ l, Wts P e d
 | [], _, d, hd => by cases hd
 | x :: r, h, d, hd => by
  simp only [DataW.weightsAll, List.mem_append] at h
  rcases List.mem_cons.1 hd with rfl | hd
  ·exact fun n hn => h n (.inl hn)
  ·exact wts_all (fun n hn => h n (.inr hn)) d hd
theorem wts_each : ∀ {ts : List TypeId} {l : List (DataW H)}, (∀ n ∈ DataW.weightsEach P ts l, n ≤ reachBytes) → ∀ i (h : i < ts.length) (h' : i < l.length), Wts P ts[i] l[i]
 | [], _, _, i, h, _ => by cases h
 | _ :: _, [], _, i, _, h' => by cases h'
 | t :: ts, d :: r, h, i, hi, hi' => by
  simp only [DataW.weightsEach, List.mem_append] at h
  cases i with
  | zero => exact fun n hn => h n (.inl hn)
  | succ i => exact wts_each (fun n hn => h n (.inr hn)) i (by simpa using hi) (by simpa using hi')
theorem wts_slice {t e : TypeId} {el sl : List (DataW H)} (hu : P.underlying t = some (.slice e)) (h : Wts P t (.slice el sl)) : el.length * P.bytesOf e ≤ reachBytes ∧ ∀ d ∈ el, Wts P e d := by
 unfold Wts at h
 simp only [DataW.weights, hu, List.mem_cons, List.mem_append] at h
 refine ⟨Nat.le_trans (Nat.mul_le_mul_right _ (Nat.le_add_right _ _)) (h _ (.inl rfl)), fun d hd => wts_all (fun n hn => h n (.inr (.inl hn))) d hd⟩
theorem wts_struct {t : TypeId} {fs : Array Field} {l : List (DataW H)} (hu : P.underlying t = some (.struct fs)) (h : Wts P t (.agg l)) (i : Nat) (hi : i < fs.size) (hi' : i < l.length) : Wts P fs[i].type l[i] := by
 unfold Wts at h
 simp only [DataW.weights, hu] at h
 have := wts_each h i (by simpa using hi) hi'
 simpa using this
theorem wts_array {t e : TypeId} {m : Nat} {l : List (DataW H)} (hu : P.underlying t = some (.array m e)) (h : Wts P t (.agg l)) : ∀ d ∈ l, Wts P e d := by
 unfold Wts at h
 simp only [DataW.weights, hu] at h
 exact wts_all h
theorem cr_struct {rec : TypeId → Option (List Ty)} {cs : List Value} {n : Nat} (hn : cs.length = n) : ∀ (fs : List Field) (off : Nat) (ts : List Ty), off ≤ n → tyFs P rec fs off n = some ts →
  (∀ f ∈ fs, ∀ ts', rec f.type = some ts' → CR w ts' ((cs.drop f.offset).take (P.cellsOf f.type))) → CR w ts (cs.drop off)
 | [], off, ts, ho, h, _ => by
  simp only [tyFs] at h
  split at h
  ·cases h
   rw [List.drop_eq_nil_iff.2 (by omega)]
   trivial
  ·cases h
 | f :: fs, off, ts, ho, h, hf => by
  simp only [tyFs] at h
  split at h
  ·cases h
  rename_i h1
  have h1 : f.offset = off := by simpa using h1
  obtain ⟨a, ha, h⟩ := Option.bind_eq_some_iff.1 h
  split at h
  ·cases h
  rename_i h2
  have h2 : a.length = P.cellsOf f.type := by simpa using h2
  obtain ⟨b, hb, h⟩ := Option.bind_eq_some_iff.1 h
  cases h
  have k1 := hf f (List.mem_cons_self ..) a ha
  have k1l := k1.len
  rw [h1, ← h2] at k1
  have hle : off + a.length ≤ n := by
   rw [List.length_take, List.length_drop, h1] at k1l; omega
  have k2 := cr_struct hn fs (off + a.length) b hle hb (fun g hg => hf g (List.mem_cons_of_mem _ hg))
  have := k1.append k2
  rwa [← List.drop_drop, List.take_append_drop] at this
theorem cr_array {cs : List Value} {c : Nat} {ts : List Ty} (ht : ts.length = c) : ∀ (m i : Nat), cs.length = (i + m) * c → (∀ j, i ≤ j → j < i + m → CR w ts ((cs.drop (j * c)).take c)) → CR w (List.replicate m ts).flatten (cs.drop (i * c))
 | 0, i, hl, _ => by
  rw [List.drop_eq_nil_iff.2 (by rw [hl]; simp)]
  trivial
 | m + 1, i, hl, h => by
  have k1 := h i (Nat.le_refl _) (by omega)
  have k2 := cr_array ht m (i + 1) (by rw [hl]; congr 1; omega) (fun j hj hj' => h j (by omega) (by omega))
  have := k1.append k2
  rw [Nat.succ_mul, ← List.drop_drop, List.take_append_drop] at this
  simpa [List.replicate_succ] using this
theorem cr_slice {t e : TypeId} {fuel : Nat} {cs : List Value} {x : DataW H × List MemPlace} {k : K} {c : Nat} {Pe : DV → Prop} (hu : P.underlying t = some (.slice e)) (hd : DataW.trod enc P w 0 sp held fuel t cs = some x) (hc1 : c = P.cellsOf e) (hc2 : k.size = c) (hc3 : 0 < c) (hw : Wts P t x.1)
  (hel : ∀ n cs' x', n < fuel → DataW.trod enc P w 0 sp held n e cs' = some x' → Wts P e x'.1 → ∃ us, us.length = c ∧ CR w us cs' ∧ ∀ xs ee, mkD k xs = some ee → HasL us xs → Pe ee) :
  ∃ v E, cs = [v] ∧ flat v ∧ RelD w (Live w) (.l k E false) v ∧ E.length ≤ maxLen ∧ E.length * P.bytesOf e ≤ cap47 ∧ ∀ e ∈ E, Pe e := by
 rcases DataW.trod_slice hu hd with ⟨rfl, -⟩ | ⟨a, len, cap, elems, rest, n, rfl, rfl, hxe, hb, hl, hm, hlen, hx, -, -⟩
 ·refine ⟨_, [], rfl, rfl, ?_, by simp, by simp, fun e he => by cases he⟩
  exact .l k [] false none 0 0 0 (fun _ _ => .bool false) (Nat.le_refl _) (fun h => by cases h) (fun h => by cases h) (fun j h => by cases h) (fun j h => by cases h)
 ·rw [hxe] at hw
  obtain ⟨hw1, hw2⟩ := wts_slice hu hw
  have hs : ∀ i, i < len → ∃ V : (Nat → Value) × DV, (∀ q, q < k.size → w.cell? (a.add (i * P.cellsOf e + q)) = some (V.1 q) ∧ flat (V.1 q)) ∧ Pe V.2 ∧ RelD w (Live w) V.2 (mkV k V.1) := by
   intro i hi
   have h0 := hx i hi
   rw [List.getElem?_eq_getElem (by omega)] at h0
   obtain ⟨cs', h1, h2⟩ := Option.bind_eq_some_iff.1 h0
   obtain ⟨us, hus, h3, hpe⟩ := hel n cs' _ (Nat.lt_succ_self n) h2 (hw2 _ (List.mem_map.2 ⟨_, List.getElem_mem _, rfl⟩))
   obtain ⟨-, h4, h5⟩ := World.cells?_some h1
   obtain ⟨xs, ee, e1, e2, e3⟩ := h3.val (k := k) (by omega) (fun q => cs'.getD q (.bool false)) (fun q hq => by simp [hq])
   have hul := h3.len
   refine ⟨(fun q => cs'.getD q (.bool false), ee), ?_, hpe xs ee e1 e2, e3⟩
   intro q hq
   have hq' : q < cs'.length := by omega
   have h6 := h5 q (by omega)
   rw [List.getElem?_eq_getElem hq'] at h6
   have e7 : (cs'.getD q (.bool false)) = cs'[q] := by simp [hq']
   refine ⟨?_, ?_⟩
   ·rw [show (a.add (i * P.cellsOf e + q)) = (a.add (i * P.cellsOf e)).add q by by_cases g1 : i * P.cellsOf e = 0 <;> by_cases g2 : q = 0 <;> simp [Addr.add, g1, g2, Nat.add_assoc]]
    simp only [e7]; exact h6
   ·show flat (cs'.getD q (.bool false))
    rw [e7]; exact h3.flat _ (List.getElem_mem _)
  have : Inhabited ((Nat → Value) × DV) := ⟨(fun _ => .bool false, .np)⟩
  obtain ⟨V, hV⟩ := choose_lt hs
  obtain ⟨E, hE, hEV⟩ : ∃ E : List DV, E.length = len ∧ ∀ i (h : i < E.length), E[i] = (V i).2 := ⟨(List.range len).map fun i => (V i).2, by simp, fun i h => by simp⟩
  subst hE
  have hk0 : 0 < k.size := by omega
  have sp0 : ∀ j, j < E.length → a.spot = none := by
   intro j hj
   have := World.cell?_spot ((hV 0 (by omega)).1 0 hk0).1
   simpa [Addr.add] using this
  refine ⟨_, E, rfl, rfl, ?_, by omega, by simp only [List.length_map, hlen] at hw1; unfold cap47; unfold reachBytes at hw1; omega, ?_⟩
  ·refine RelD.l (w := w) (S := Live w) k E false (some a) cap a.block a.off (fun j => (V j).1) hl (fun h => by cases h) ?_ ?_ ?_
   ·intro h0
    have := sp0 0 h0
    cases a; simp_all
   ·intro j hj q hq
    obtain ⟨g1, g2⟩ := (hV j hj).1 q hq
    have hs0 := sp0 j hj
    have e8 : a.add (j * P.cellsOf e + q) = ⟨a.block, a.off + j * k.size + q, none⟩ := by
     rw [← hc1, ← hc2]
     obtain ⟨ab, ao, as0⟩ := a
     simp only at hs0
     subst hs0
     by_cases g : j * k.size + q = 0 <;> simp [Addr.add, g, Nat.add_assoc]
     omega
    rw [e8] at g1
    exact ⟨g1, ⟨_, g1⟩, g2⟩
   ·intro j hj
    rw [hEV j hj]
    exact (hV j hj).2.2
  ·intro ee he
   obtain ⟨i, hi, rfl⟩ := List.getElem_of_mem he
   rw [hEV i hi]
   exact (hV i hi).2.1
theorem cr_base {u : TypeId} {fuel : Nat} {cs : List Value} {x : DataW H × List MemPlace} {ts : List Ty} (hd : DataW.trod enc P w 0 sp held fuel u cs = some x) (h : tyB P u = some ts) : CR w ts cs := by
 unfold tyB at h
 split at h
 ·rename_i hu
  cases h
  obtain ⟨b, rfl, -⟩ := DataW.trod_bool hu hd
  exact ⟨⟨rfl, .b b, by simp [Has], .b b⟩, trivial⟩
 ·rename_i k hu
  cases h
  obtain ⟨m, rfl, -, hw⟩ := DataW.trod_int hu hd
  exact ⟨⟨rfl, .i k m, by simp [Has, hw], .i k m⟩, trivial⟩
 ·rename_i hu
  cases h
  obtain ⟨s, rfl, -, hs⟩ := DataW.trod_string hu hd
  exact ⟨⟨rfl, .s s.data.toList, by simpa [Has] using hs, .s _ s rfl⟩, trivial⟩
 ·cases h
theorem xe_of {xs : List DV} {ee : DV} (h1 : mkD (some 4) xs = some ee) (h2 : HasL [.i .i64, .i .i64, .s, .e] xs) : XE ee := by
 match xs, h2 with
 | [x1, x2, x3, x4], h2 =>
  simp only [HasL, Has, and_true] at h2
  obtain ⟨⟨o, rfl, ho⟩, ⟨n, rfl, hn⟩, ⟨s, rfl, hs⟩, h4⟩ := h2
  simp only [mkD, List.length_cons, List.length_nil, if_true, Option.some.injEq] at h1
  subst h1
  exact .mk o n s x4 ho hn hs h4
 | [], h2 => simp [HasL] at h2
 | [_], h2 => simp [HasL] at h2
 | [_, _], h2 => simp [HasL] at h2
 | [_, _, _], h2 => simp [HasL] at h2
 | _ :: _ :: _ :: _ :: _ :: _, h2 => simp [HasL] at h2
theorem xl_of {t : TypeId} (ht : exprB P t = true) : ∀ (m fuel : Nat) (cs : List Value) (x : DataW H × List MemPlace), fuel ≤ m → DataW.trod enc P w 0 sp held fuel t cs = some x → Wts P t x.1 → CR w [.e] cs := by
 have ht0 := ht
 unfold exprB at ht
 split at ht
 case h_2 => cases ht
 rename_i e hu
 simp only [Bool.and_eq_true, decide_eq_true_eq] at ht
 obtain ⟨hk, ⟨hc, hb⟩, ht⟩ := ht
 split at ht
 case h_2 => cases ht
 rename_i fs hf
 obtain ⟨ts, hts, h4⟩ : ∃ ts, tyFs P (fun u => if u = t then some [.e] else tyB P u) fs.toList 0 4 = some ts ∧ ts = [.i .i64, .i .i64, .s, .e] := by
  unfold isX4 at ht
  split at ht
  ·rename_i hq; exact ⟨_, hq, rfl⟩
  ·cases ht
 subst h4
 intro m
 induction m with
 | zero =>
  intro fuel cs x hm hd _
  obtain rfl : fuel = 0 := by omega
  simp [DataW.trod] at hd
 | succ m ih =>
  intro fuel cs x hm hd hw
  obtain ⟨v, E, rfl, hfl, hr, hlen, hlb, hE⟩ := cr_slice (k := some 4) (c := 4) (Pe := XE) hu hd hc.symm rfl (by decide) hw (fun n cs' x' hn hd' hw' => by
   refine ⟨_, rfl, ?_, fun xs ee h1 h2 => xe_of h1 h2⟩
   obtain ⟨xs, n', rfl, hxe, hl, hl2, hx⟩ := DataW.trod_struct hf hd'
   rw [hxe] at hw'
   have := cr_struct (P := P) (w := w) (rec := fun u => if u = t then some [.e] else tyB P u) (hl.trans hc) fs.toList 0 _ (Nat.zero_le _) hts (fun f hf' ts' hts' => by
    obtain ⟨i, hi, rfl⟩ := List.getElem_of_mem hf'
    have hi' : i < fs.size := by simpa using hi
    have h5 := hx i fs[i] (by simp [hi'])
    rw [List.getElem?_eq_getElem (by omega)] at h5
    simp only [Array.getElem_toList] at hts' ⊢
    split at hts'
    ·rename_i hft
     cases hts'
     rw [hft] at h5 ⊢
     exact ih n' _ _ (by omega) h5 (by have := wts_struct hf hw' i hi' (by simp; omega); rw [hft] at this; simpa using this)
    ·exact cr_base h5 hts')
   simpa using this)
  exact ⟨⟨hfl, _, by rw [Has]; exact .mk E hlen hE (by rw [← hb]; exact hlb), hr⟩, trivial⟩
theorem cr_of (n : Nat) : ∀ {fuel : Nat} {t : TypeId} {cs : List Value} {x : DataW H × List MemPlace} {ts : List Ty}, DataW.trod enc P w 0 sp held fuel t cs = some x → Wts P t x.1 → tyOf P n t = some ts → CR w ts cs := by
 induction n with
 | zero => intro fuel t cs x ts _ _ h; cases h
 | succ n ih =>
  intro fuel t cs x ts hd hw h
  simp only [tyOf] at h
  split at h
  ·rename_i hu
   cases h
   obtain ⟨b, rfl, -⟩ := DataW.trod_bool hu hd
   exact ⟨⟨rfl, .b b, by simp [Has], .b b⟩, trivial⟩
  ·rename_i k hu
   cases h
   obtain ⟨m, rfl, -, hw⟩ := DataW.trod_int hu hd
   exact ⟨⟨rfl, .i k m, by simp [Has, hw], .i k m⟩, trivial⟩
  ·rename_i hu
   cases h
   obtain ⟨s, rfl, -, hs⟩ := DataW.trod_string hu hd
   exact ⟨⟨rfl, .s s.data.toList, by simpa [Has] using hs, .s _ s rfl⟩, trivial⟩
  ·rename_i e hu
   split at h
   ·rename_i hX
    cases h
    exact xl_of hX fuel fuel cs x (Nat.le_refl _) hd hw
   obtain ⟨k, hk, h⟩ := Option.bind_eq_some_iff.1 h
   obtain ⟨us, hus, h⟩ := Option.bind_eq_some_iff.1 h
   split at h
   ·rename_i hc
    cases h
    obtain ⟨hc1, hc2, hc3⟩ := hc
    obtain ⟨v, E, rfl, hfl, hr, hlen, hlb, hE⟩ := cr_slice (k := k) (c := us.length) (Pe := fun ee => ∃ cs, mkD k cs = some ee ∧ HasL us cs) hu hd hc1 hc2 hc3 hw (fun n' cs' x' _ hd' hw' => ⟨us, rfl, ih hd' hw' hus, fun xs ee h1 h2 => ⟨xs, h1, h2⟩⟩)
    refine ⟨⟨hfl, _, ?_, hr⟩, trivial⟩
    rw [Has]
    exact ⟨E, rfl, hlen, hlb, hE⟩
   ·cases h
  ·rename_i fs hu
   obtain ⟨xs, m, -, hxe, hl, hl2, hx⟩ := DataW.trod_struct hu hd
   rw [hxe] at hw
   have := cr_struct (P := P) (w := w) (rec := tyOf P n) hl fs.toList 0 ts (Nat.zero_le _) h (fun f hf ts' hts => by
    obtain ⟨i, hi, rfl⟩ := List.getElem_of_mem hf
    have hi' : i < fs.size := by simpa using hi
    have := hx i fs[i] (by simp [hi'])
    rw [List.getElem?_eq_getElem (by omega)] at this
    simpa using ih this (by have := wts_struct hu hw i hi' (by simp; omega); simpa using this) hts)
   simpa using this
  ·rename_i m e hu
   obtain ⟨us, hus, h⟩ := Option.bind_eq_some_iff.1 h
   split at h
   ·rename_i hc
    cases h
    obtain ⟨xs, m', -, hxe, hl, hl2, hx⟩ := DataW.trod_array hu hd
    rw [hxe] at hw
    have := cr_array (w := w) (cs := cs) hc.1 m 0 (by rw [hl, hc.2]; simp) (fun j _ hj => by
     have := hx j (by omega)
     rw [List.getElem?_eq_getElem (by omega)] at this
     exact ih this (wts_array hu hw _ (List.mem_map.2 ⟨_, List.getElem_mem _, rfl⟩)) hus)
    simpa using this
   ·cases h
  ·cases h
end
end Go.Sim
end
section
open Go.RowKit
namespace Go.Sim
section
variable {P : Program} {W : World}
theorem laidVars_get {n : String} {d : DataW Unit} : ∀ {l : List (String × DataW Unit)} {ps : List MemPlace}, DataW.LaidVars P W l ps → (n, d) ∈ l →
  ∃ g t cs fuel p, P.globalNamed n = some g ∧ (P.globals[g]?).map (·.type) = some t ∧ W.var? P n = some cs ∧ DataW.trod (fun _ => ()) P W 0 (fun _ => true) false fuel t cs.toList = some (d, p) ∧ ∀ x ∈ MemPlace.row ⟨g, 0, none⟩ cs.size, x ∈ ps
 | [], _, _, h => by cases h
 | (m, e) :: r, ps, h, hm => by
  obtain ⟨g, t, cs, fuel, p, q, h1, h2, h3, h4, h5, rfl⟩ := h
  rcases List.mem_cons.1 hm with h | h
  ·cases h
   exact ⟨g, t, cs, fuel, p, h1, h2, h3, h4, fun x hx => List.mem_append_left _ (List.mem_append_left _ hx)⟩
  ·obtain ⟨g', t', cs', fuel', p', a1, a2, a3, a4, a5⟩ := laidVars_get h5 h
   exact ⟨g', t', cs', fuel', p', a1, a2, a3, a4, fun x hx => List.mem_append_right _ (a5 x hx)⟩
theorem laid_block {laid : List (String × DataW Unit)} (h : laidMet P laid W) {n : String} {d : DataW Unit} (hm : (n, d) ∈ laid) {g : Nat} (hg : P.globalNamed n = some g) {t : TypeId} (ht : (P.globals[g]?).map (·.type) = some t) :
  ∃ (cs : Array Value) (fuel : Nat) (p : List MemPlace), DataW.trod (fun _ => ()) P W 0 (fun _ => true) false fuel t cs.toList = some (d, p) ∧ (0 < cs.size → ∃ e, W.shape? g = some (e, cs.size)) ∧ ∀ j (hj : j < cs.size), W.cell? ⟨g, j, none⟩ = some cs[j] := by
 obtain ⟨ps, h1, -, h3⟩ := h
 obtain ⟨g', t', cs, fuel, p, a1, a2, a3, a4, a5⟩ := laidVars_get h1 hm
 obtain rfl := Option.some.inj (hg.symm.trans a1)
 obtain rfl := Option.some.inj (ht.symm.trans a2)
 have hheap : ∃ e fz, W.heap[g]? = some (.cells cs e fz) := by
  unfold World.var? at a3
  rw [hg] at a3
  simp only [Option.bind_some] at a3
  split at a3
  ·rename_i cs' e fz hw
   cases a3
   exact ⟨e, fz, hw⟩
  ·cases a3
 obtain ⟨e, fz, hw⟩ := hheap
 refine ⟨cs, fuel, p, a4, ?_, ?_⟩
 ·intro hp
  obtain ⟨⟨c, u, hc⟩, -⟩ := h3 g 0 (a5 _ (by unfold MemPlace.row; exact List.mem_map.2 ⟨0, List.mem_range.2 hp, rfl⟩))
  rw [hw] at hc
  cases hc
  exact ⟨e, by simp [World.shape?, hw]⟩
 ·intro j hj
  simp [World.cell?, hw, hj]
theorem gok_cells {S : Stab} (hS : S = Live W) {g : Nat} {zs : List (IntKind × Int)} (hz : 0 < zs.length) {cs : Array Value} (hl : cs.toList = zs.map fun z => Value.int z.1 z.2) (hs : 0 < cs.size → ∃ e, W.shape? g = some (e, cs.size)) (hc : ∀ j (hj : j < cs.size), W.cell? ⟨g, j, none⟩ = some cs[j]) :
  (∃ e, W.shape? g = some (e, zs.length)) ∧ ∃ f, At W S g 0 zs.length f ∧ RelD W S (.a (zs.map fun z => .i z.1 z.2)) (mkV (some zs.length) f) := by
 subst hS
 have hn : cs.size = zs.length := by rw [← Array.length_toList, hl, List.length_map]
 have hget : ∀ j (hj : j < zs.length), cs[j]'(by omega) = .int zs[j].1 zs[j].2 := fun j hj => by
  have h1 : cs.toList[j]'(by rw [Array.length_toList]; omega) = cs[j]'(by omega) := Array.getElem_toList _
  rw [← h1]
  simp only [hl, List.getElem_map]
 refine ⟨?_, fun j => cs.getD j (.bool false), ?_, ?_⟩
 ·obtain ⟨e, he⟩ := hs (by omega)
  exact ⟨e, by rw [he, hn]⟩
 ·intro j hj
  have h1 := hc j (by omega)
  have h2 : cs.getD j (.bool false) = cs[j]'(by omega) := by simp [Array.getD, show j < cs.size by omega]
  refine ⟨by rw [Nat.zero_add]; show _ = some (cs.getD j (.bool false)); rw [h2]; exact h1, ⟨_, by rw [Nat.zero_add]; exact h1⟩, ?_⟩
  show flat (cs.getD j (.bool false))
  rw [h2, hget j hj]; rfl
 ·simp only [mkV]
  refine RelD.a _ _ (by simp) ?_ ?_
  ·intro v hv
   obtain ⟨j, hj, rfl⟩ := List.mem_map.1 hv
   have hj := List.mem_range.1 hj
   have h2 : cs.getD j (.bool false) = cs[j]'(by omega) := by simp [Array.getD, show j < cs.size by omega]
   show flat (cs.getD j (.bool false))
   rw [h2, hget j hj]; rfl
  ·intro j hj hj'
   simp only [List.length_map] at hj
   simp only [List.getElem_map, List.getElem_range]
   have h2 : cs.getD j (.bool false) = cs[j]'(by omega) := by simp [Array.getD, show j < cs.size by omega]
   rw [h2, hget j hj]
   exact .i _ _
theorem gok_ints {laid : List (String × DataW Unit)} (h : laidMet P laid W) {n : String} {k : IntKind} {zs : List Int} (hm : (n, .agg (zs.map fun z => .lit (.int k z))) ∈ laid) {g : Nat} (hg : P.globalNamed n = some g) {t : TypeId} (ht : (P.globals[g]?).map (·.type) = some t)
  {m : Nat} {e : TypeId} (hu : P.underlying t = some (.array m e)) (he : P.underlying e = some (.int k)) (hc : P.cellsOf e = 1) (hct : P.cellsOf t = m) (hz : 0 < zs.length) :
  (∃ e, W.shape? g = some (e, zs.length)) ∧ ∃ f, At W (Live W) g 0 zs.length f ∧ RelD W (Live W) (.a (zs.map fun z => .i k z)) (mkV (some zs.length) f) := by
 obtain ⟨cs, fuel, p, h1, h2, h3⟩ := laid_block h hm hg ht
 obtain ⟨xs, m', rfl, hx, hl, hxl, hel⟩ := DataW.trod_array hu h1
 simp only [Prod.mk.injEq, DataW.agg.injEq] at hx
 have hzl : zs.length = m := by
  have := congrArg List.length hx.1
  simp only [List.length_map] at this
  omega
 have hcs : cs.toList = (zs.map fun z => (k, z)).map fun z => Value.int z.1 z.2 := by
  apply List.ext_getElem
  ·simp only [List.length_map]; rw [hl, hct, hzl]
  ·intro j hj hj'
   simp only [List.length_map] at hj'
   have hjm : j < m := by omega
   have h4 := hel j hjm
   rw [hc, Nat.mul_one, List.getElem?_eq_getElem (by omega)] at h4
   obtain ⟨n', e1, e2, -⟩ := DataW.trod_int he h4
   have e3 : cs.toList[j] = .int k n' := by
    have : (cs.toList.drop j).take 1 = [cs.toList[j]] := by
     rw [List.drop_eq_getElem_cons hj]; rfl
    rw [this] at e1
    exact (List.cons.inj e1).1
   rw [e3]
   have e4 : (xs.map (·.1))[j]'(by simp; omega) = .lit (.int k n') := by simp only [List.getElem_map]; rw [e2]
   have e5 : (zs.map fun z => (DataW.lit (.int k z) : DataW Unit))[j]'(by simp; omega) = .lit (.int k n') := by
    rw [← e4]; congr 1; exact hx.1
   simp only [List.getElem_map] at e5
   have e6 : zs[j] = n' := by simpa using e5
   simp only [List.getElem_map]
   rw [e6]
 have := gok_cells (W := W) rfl (g := g) (zs := zs.map fun z => (k, z)) (by simpa using hz) hcs h2 h3
 simpa only [List.length_map, List.map_map, Function.comp_def] using this
noncomputable def gnum (gl : List (Nat × Nat)) (g : Nat) : Nat := look (fun x => x) (g + 100) gl g
theorem gok_of {f : FuncId → Option (Nat × Nat)} {gl : List (Nat × Nat)} {gs : List (Nat × DV × K)} {S : Stab} (hlow : (gs.all fun x => Nat.blt x.1 100) = true)
  (h : ∀ x ∈ gl, ∀ v k, look some none gs x.2 = some (v, k) → (∃ e, W.shape? x.1 = some (e, k.size)) ∧ ∃ c, At W S x.1 0 k.size c ∧ RelD W S v (mkV k c)) : GOK ⟨f, gnum gl⟩ (look some none gs) W S := by
 intro g v k hg
 change look some none gs (gnum gl g) = _ at hg
 unfold gnum at hg
 rcases look_mem (f := fun x => x) (z := g + 100) (l := gl) (n := g) with h1 | ⟨x, h1, h2⟩
 ·exfalso
  rw [h1] at hg
  rcases look_mem (f := some) (z := none) (l := gs) (n := g + 100) with h3 | ⟨y, h3, -⟩
  ·rw [h3] at hg; cases hg
  ·have := List.all_eq_true.1 hlow _ h3
   have := Nat.le_of_ble_eq_true this
   omega
 ·rw [h2] at hg
  exact h (g, x) h1 v k hg
end
end Go.Sim
end
