/- From what a reading says of an argument to plain data: every argument that is read stands for a plain datum of its type's shape. -/
import Derived.Test.YtbbboagbgimaaaaDoorCbSimZ
import Derived.ChangeArms
import Derived.OpenShut
import Derived.Deep.Slices
import Derived.WideShapes
open Go.RowKit Go.WideShapes Go.Deep
namespace Go.Sim
/-- The shape of one cell. -/
inductive Ty where
  | b
  | i (k : IntKind)
  | s
  | l (k : K) (ts : List Ty)
mutual
def Has : Ty → DV → Prop
  | .b, x => ∃ c, x = .b c
  | .i k, x => ∃ n, x = .i k n ∧ (Lit.int k n).wf = true
  | .s, x => ∃ l, x = .s l ∧ l.length ≤ maxLen
  | .l k ts, x => ∃ es t, x = .l k es t ∧ es.length ≤ maxLen ∧ ∀ e ∈ es, ∃ cs, mkD k cs = some e ∧ HasL ts cs
def HasL : List Ty → List DV → Prop
  | [], [] => True
  | t :: ts, x :: xs => Has t x ∧ HasL ts xs
  | _, _ => False
end
def tyFs (P : Program) (rec : TypeId → Option (List Ty)) : List Field → Nat → Nat → Option (List Ty)
  | [], off, n => if off = n then some [] else none
  | f :: fs, off, n => if f.offset ≠ off then none else (rec f.type).bind fun a => if a.length ≠ P.cellsOf f.type then none else (tyFs P rec fs (off + a.length) n).bind fun b => some (a ++ b)
def tyOf (P : Program) : Nat → TypeId → Option (List Ty)
  | 0, _ => none
  | n + 1, t => match P.underlying t with
    | some .bool => some [.b]
    | some (.int k) => some [.i k]
    | some .string => some [.s]
    | some (.slice e) => (kq P e).bind fun k => (tyOf P n e).bind fun ts => if ts.length = P.cellsOf e ∧ k.size = ts.length ∧ 0 < ts.length then some [.l k ts] else none
    | some (.struct fs) => tyFs P (tyOf P n) fs.toList 0 (P.cellsOf t)
    | some (.array m e) => (tyOf P n e).bind fun ts => if ts.length = P.cellsOf e ∧ P.cellsOf t = m * P.cellsOf e then some (List.replicate m ts).flatten else none
    | _ => none
/-- Every cell that is there. -/
def Live (w : World) : Stab := fun b o => ∃ v, w.cell? ⟨b, o, none⟩ = some v
theorem Live.swf (w : World) : Swf w (Live w) := fun _ _ h => h
def R1 (w : World) (t : Ty) (v : Value) : Prop := flat v ∧ ∃ x, Has t x ∧ RelD w (Live w) x v
def CR (w : World) : List Ty → List Value → Prop
  | [], [] => True
  | t :: ts, v :: vs => R1 w t v ∧ CR w ts vs
  | _, _ => False
theorem CR.append {w : World} : ∀ {ts : List Ty} {vs : List Value} {us : List Ty} {ws : List Value}, CR w ts vs → CR w us ws → CR w (ts ++ us) (vs ++ ws)
  | [], [], _, _, _, k => k
  | _ :: _, _ :: _, _, _, h, k => ⟨h.1, h.2.append k⟩
  | [], _ :: _, _, _, h, _ => h.elim
  | _ :: _, [], _, _, h, _ => h.elim
theorem CR.len {w : World} : ∀ {ts : List Ty} {vs : List Value}, CR w ts vs → ts.length = vs.length
  | [], [], _ => rfl
  | _ :: _, _ :: _, h => by simp [h.2.len]
  | [], _ :: _, h => h.elim
  | _ :: _, [], h => h.elim
theorem CR.flat {w : World} : ∀ {ts : List Ty} {vs : List Value}, CR w ts vs → ∀ v ∈ vs, flat v
  | [], [], _, v, hv => by cases hv
  | _ :: _, _ :: _, h, v, hv => by
    rcases List.mem_cons.1 hv with rfl | hv
    · exact h.1.1
    · exact h.2.flat v hv
  | [], _ :: _, h, _, _ => h.elim
  | _ :: _, [], h, _, _ => h.elim
theorem CR.data {w : World} : ∀ {ts : List Ty} {vs : List Value}, CR w ts vs → ∃ xs, HasL ts xs ∧ xs.length = vs.length ∧ ∀ j (h : j < xs.length) (h' : j < vs.length), RelD w (Live w) xs[j] vs[j]
  | [], [], _ => ⟨[], by simp [HasL], rfl, fun j h => by cases h⟩
  | _ :: _, _ :: _, h => by
    obtain ⟨xs, h1, h2, h3⟩ := h.2.data
    obtain ⟨-, x, h4, h5⟩ := h.1
    refine ⟨x :: xs, by rw [HasL]; exact ⟨h4, h1⟩, by simp [h2], ?_⟩
    intro j hj hj'
    cases j with
    | zero => exact h5
    | succ j => exact h3 j _ _
  | [], _ :: _, h => h.elim
  | _ :: _, [], h => h.elim
/-- A value of shape k out of its cells. -/
theorem CR.val {w : World} {ts : List Ty} {vs : List Value} (h : CR w ts vs) {k : K} (hk : k.size = ts.length) (c : Nat → Value) (hc : ∀ m (h : m < vs.length), c m = vs[m]) :
    ∃ xs e, mkD k xs = some e ∧ HasL ts xs ∧ RelD w (Live w) e (mkV k c) := by
  obtain ⟨xs, h1, h2, h3⟩ := h.data
  have hl := h.len
  cases k with
  | none =>
    simp only [K.size] at hk
    match xs, vs, h2 with
    | [x], [v], _ =>
      refine ⟨[x], x, rfl, h1, ?_⟩
      have := h3 0 (by simp) (by simp)
      simp only [mkV]
      rw [hc 0 (by simp)]
      exact this
    | [], [], _ => simp at hl; subst hl; simp at hk
    | _ :: _ :: _, vs, e => rw [← hl, ← hk] at e; simp at e
  | some n =>
    simp only [K.size] at hk
    have e : (List.range n).map c = vs := by
      apply List.ext_getElem
      · simp; omega
      · intro m hm hm'
        simp [hc m hm']
    refine ⟨xs, .a xs, by simp [mkD]; omega, h1, ?_⟩
    simp only [mkV, e]
    exact .a xs vs h2 h.flat h3
theorem mkV_congr {k : K} {c c' : Nat → Value} (h : ∀ m, m < k.size → c m = c' m) : mkV k c = mkV k c' := by
  cases k with
  | none => exact h 0 (by simp [K.size])
  | some n =>
    simp only [mkV]
    congr 2
    exact List.map_congr_left fun m hm => h m (by simpa [K.size] using hm)
section
variable {H : Type} {enc : TypeId × Value → H} {P : Program} {w : World} {sp : Nat → Bool} {held : Bool}
theorem cr_struct {rec : TypeId → Option (List Ty)} {cs : List Value} {n : Nat} (hn : cs.length = n) : ∀ (fs : List Field) (off : Nat) (ts : List Ty), off ≤ n → tyFs P rec fs off n = some ts →
    (∀ f ∈ fs, ∀ ts', rec f.type = some ts' → CR w ts' ((cs.drop f.offset).take (P.cellsOf f.type))) → CR w ts (cs.drop off)
  | [], off, ts, ho, h, _ => by
    simp only [tyFs] at h
    split at h
    · cases h
      rw [List.drop_eq_nil_iff.2 (by omega)]
      trivial
    · cases h
  | f :: fs, off, ts, ho, h, hf => by
    simp only [tyFs] at h
    split at h
    · cases h
    rename_i h1
    have h1 : f.offset = off := by simpa using h1
    obtain ⟨a, ha, h⟩ := Option.bind_eq_some_iff.1 h
    split at h
    · cases h
    rename_i h2
    have h2 : a.length = P.cellsOf f.type := by simpa using h2
    obtain ⟨b, hb, h⟩ := Option.bind_eq_some_iff.1 h
    cases h
    have k1 := hf f (List.mem_cons_self ..) a ha
    have k1l := k1.len
    rw [h1, ← h2] at k1
    have hle : off + a.length ≤ n := by
      rw [List.length_take, List.length_drop, h1] at k1l; omega
    have k2 := cr_struct hn fs (off + a.length) b hle hb (fun g hg => hf g (List.mem_cons_of_mem _ hg))
    have := k1.append k2
    rwa [← List.drop_drop, List.take_append_drop] at this
theorem cr_array {cs : List Value} {c : Nat} {ts : List Ty} (ht : ts.length = c) : ∀ (m i : Nat), cs.length = (i + m) * c → (∀ j, i ≤ j → j < i + m → CR w ts ((cs.drop (j * c)).take c)) → CR w (List.replicate m ts).flatten (cs.drop (i * c))
  | 0, i, hl, _ => by
    rw [List.drop_eq_nil_iff.2 (by rw [hl]; simp)]
    trivial
  | m + 1, i, hl, h => by
    have k1 := h i (Nat.le_refl _) (by omega)
    have k2 := cr_array ht m (i + 1) (by rw [hl]; congr 1; omega) (fun j hj hj' => h j (by omega) (by omega))
    have := k1.append k2
    rw [Nat.succ_mul, ← List.drop_drop, List.take_append_drop] at this
    simpa [List.replicate_succ] using this
theorem cr_of (n : Nat) : ∀ {fuel : Nat} {t : TypeId} {cs : List Value} {x : DataW H × List MemPlace} {ts : List Ty}, DataW.trod enc P w 0 sp held fuel t cs = some x → tyOf P n t = some ts → CR w ts cs := by
  induction n with
  | zero => intro fuel t cs x ts _ h; cases h
  | succ n ih =>
    intro fuel t cs x ts hd h
    simp only [tyOf] at h
    split at h
    · rename_i hu
      cases h
      obtain ⟨b, rfl, -⟩ := DataW.trod_bool hu hd
      exact ⟨⟨rfl, .b b, by simp [Has], .b b⟩, trivial⟩
    · rename_i k hu
      cases h
      obtain ⟨m, rfl, -, hw⟩ := DataW.trod_int hu hd
      exact ⟨⟨rfl, .i k m, by simp [Has, hw], .i k m⟩, trivial⟩
    · rename_i hu
      cases h
      obtain ⟨s, rfl, -, hs⟩ := DataW.trod_string hu hd
      exact ⟨⟨rfl, .s s.data.toList, by simpa [Has] using hs, .s _ s rfl⟩, trivial⟩
    · rename_i e hu
      obtain ⟨k, hk, h⟩ := Option.bind_eq_some_iff.1 h
      obtain ⟨us, hus, h⟩ := Option.bind_eq_some_iff.1 h
      split at h
      · rename_i hc
        cases h
        obtain ⟨hc1, hc2, hc3⟩ := hc
        rcases open_slice hu hd with ⟨rfl, -⟩ | ⟨a, len, cap, m, n', D, Pl, rfl, hb, hl, hm, hmm, rfl, hx⟩
        · refine ⟨⟨rfl, .l k [] false, ?_, ?_⟩, trivial⟩
          · rw [Has]; exact ⟨[], false, rfl, by simp, fun e he => by cases he⟩
          · exact .l k [] false none 0 0 0 (fun _ _ => .bool false) (Nat.le_refl _) (fun h => by cases h) (fun h => by cases h) (fun j h => by cases h) (fun j h => by cases h)
        · have hlm : len ≤ m := by rw [hmm]; split <;> omega
          have hs : ∀ i, i < len → ∃ V : (Nat → Value) × DV, (∀ q, q < k.size → w.cell? (a.add (i * P.cellsOf e + q)) = some (V.1 q) ∧ flat (V.1 q)) ∧ (∃ cs, mkD k cs = some V.2 ∧ HasL us cs) ∧ RelD w (Live w) V.2 (mkV k V.1) := by
            intro i hi
            obtain ⟨cs', h1, h2⟩ := hx i (by omega)
            have h3 := ih h2 hus
            obtain ⟨-, h4, h5⟩ := World.cells?_some h1
            obtain ⟨xs, ee, e1, e2, e3⟩ := h3.val hc2 (fun q => cs'.getD q (.bool false)) (fun q hq => by simp [hq])
            refine ⟨(fun q => cs'.getD q (.bool false), ee), ?_, ⟨xs, e1, e2⟩, e3⟩
            intro q hq
            have hq' : q < cs'.length := by omega
            have h6 := h5 q (by omega)
            rw [List.getElem?_eq_getElem hq'] at h6
            have e7 : (cs'.getD q (.bool false)) = cs'[q] := by simp [hq']
            refine ⟨?_, ?_⟩
            · rw [show (a.add (i * P.cellsOf e + q)) = (a.add (i * P.cellsOf e)).add q by by_cases g1 : i * P.cellsOf e = 0 <;> by_cases g2 : q = 0 <;> simp [Addr.add, g1, g2, Nat.add_assoc]]
              simp only [e7]; exact h6
            · show flat (cs'.getD q (.bool false))
              rw [e7]; exact h3.flat _ (List.getElem_mem _)
          have : Inhabited ((Nat → Value) × DV) := ⟨(fun _ => .bool false, .np)⟩
          obtain ⟨V, hV⟩ := choose_lt hs
          obtain ⟨E, hE, hEV⟩ : ∃ E : List DV, E.length = len ∧ ∀ i (h : i < E.length), E[i] = (V i).2 := ⟨(List.range len).map fun i => (V i).2, by simp, fun i h => by simp⟩
          subst hE
          have hk0 : 0 < k.size := by omega
          have sp0 : ∀ j, j < E.length → a.spot = none := by
            intro j hj
            have := World.cell?_spot ((hV 0 (by omega)).1 0 hk0).1
            simpa [Addr.add] using this
          refine ⟨⟨rfl, .l k E false, ?_, ?_⟩, trivial⟩
          · rw [Has]
            refine ⟨_, false, rfl, by omega, ?_⟩
            intro ee he
            obtain ⟨i, hi, rfl⟩ := List.getElem_of_mem he
            rw [hEV i hi]
            exact (hV i hi).2.1
          · refine RelD.l (w := w) (S := Live w) k E false (some a) cap a.block a.off (fun j => (V j).1) hl (fun h => by cases h) ?_ ?_ ?_
            · intro h0
              have := sp0 0 h0
              cases a; simp_all
            · intro j hj q hq
              obtain ⟨g1, g2⟩ := (hV j hj).1 q hq
              have hs0 := sp0 j hj
              have e8 : a.add (j * P.cellsOf e + q) = ⟨a.block, a.off + j * k.size + q, none⟩ := by
                rw [← hc1, ← hc2]
                obtain ⟨ab, ao, as⟩ := a
                simp only at hs0
                subst hs0
                by_cases g : j * k.size + q = 0 <;> simp [Addr.add, g, Nat.add_assoc]
                omega
              rw [e8] at g1
              exact ⟨g1, ⟨_, g1⟩, g2⟩
            · intro j hj
              rw [hEV j hj]
              exact (hV j hj).2.2
      · cases h
    · rename_i fs hu
      obtain ⟨xs, m, -, -, hl, hl2, hx⟩ := DataW.trod_struct hu hd
      have := cr_struct (P := P) (w := w) (rec := tyOf P n) hl fs.toList 0 ts (Nat.zero_le _) h (fun f hf ts' hts => by
        obtain ⟨i, hi, rfl⟩ := List.getElem_of_mem hf
        have hi' : i < fs.size := by simpa using hi
        have := hx i fs[i] (by simp [hi'])
        rw [List.getElem?_eq_getElem (by omega)] at this
        simpa using ih this hts)
      simpa using this
    · rename_i m e hu
      obtain ⟨us, hus, h⟩ := Option.bind_eq_some_iff.1 h
      split at h
      · rename_i hc
        cases h
        obtain ⟨xs, m', -, -, hl, hl2, hx⟩ := DataW.trod_array hu hd
        have := cr_array (w := w) (cs := cs) hc.1 m 0 (by rw [hl, hc.2]; simp) (fun j _ hj => by
          have := hx j (by omega)
          rw [List.getElem?_eq_getElem (by omega)] at this
          exact ih this hus)
        simpa using this
      · cases h
    · cases h
end
end Go.Sim
