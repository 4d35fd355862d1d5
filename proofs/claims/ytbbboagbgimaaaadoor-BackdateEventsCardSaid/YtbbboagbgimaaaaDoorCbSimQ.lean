/- What changes the abstract heap: freezing, storing, making. -/
import Derived.Test.YtbbboagbgimaaaaDoorCbSimP
import Derived.Laws.CopyRow
open Go.RowKit
namespace Go.Sim
section
variable {P : Program} {N : Names} {C : Cx} {w : World} {S : Stab} {β : Pl} {B : Nat} {H : Heap}
theorem obj_put_same {H : Heap} {o : Nat} {x : Option Obj} (h : o < H.length) : (H.put o x).obj o = x := by
  simp [Heap.obj, Heap.put, h]
theorem obj_put_ne {H : Heap} {o o' : Nat} {x : Option Obj} (h : o ≠ o') : (H.put o x).obj o' = H.obj o' := by
  simp [Heap.obj, Heap.put, h]
theorem obj_lt {H : Heap} {o : Nat} {x : Obj} (h : H.obj o = some x) : o < H.length := by
  unfold Heap.obj at h
  split at h
  · rename_i hx; exact (List.getElem?_eq_some_iff.1 hx).1
  · cases h
theorem put_length (H : Heap) (o : Nat) (x : Option Obj) : (H.put o x).length = H.length := by simp [Heap.put]
theorem frz1_length (H : Heap) (o : Nat) : (frz1 H o).length = H.length := by
  unfold frz1; split <;> simp [put_length]
theorem frz1_same {H : Heap} {o : Nat} {k : K} {ro : Nat} {es : List DV} (h : H.obj o = some (.sl k ro es)) : (frz1 H o).obj o = some (.sl k (max es.length ro) es) := by
  unfold frz1; rw [h]; exact obj_put_same (obj_lt h)
theorem frz1_no {H : Heap} {o : Nat} (h : ∀ k ro es, H.obj o ≠ some (.sl k ro es)) : frz1 H o = H := by
  unfold frz1; split
  · exact absurd ‹_› (h _ _ _)
  · rfl
theorem frz1_ne {H : Heap} {o p : Nat} (h : o ≠ p) : (frz1 H p).obj o = H.obj o := by
  unfold frz1; split
  · exact obj_put_ne (fun e => h e.symm)
  · rfl
theorem frz_length : ∀ (os : List Nat) (H : Heap), (frz H os).length = H.length
  | [], _ => rfl
  | o :: r, H => by
    unfold frz
    rw [frz_length r, frz1_length]
/-- An object behind the freezing. -/
def frzO (os : List Nat) (o : Nat) : Option Obj → Option Obj
  | some (.sl k ro es) => some (.sl k (if o ∈ os then max es.length ro else ro) es)
  | x => x
theorem frz_obj : ∀ (os : List Nat) (H : Heap) (o : Nat), (frz H os).obj o = frzO os o (H.obj o)
  | [], H, o => by
    unfold frz frzO
    split
    · rename_i h; rw [h]; simp
    · rfl
  | p :: r, H, o => by
    unfold frz
    rw [frz_obj r]
    by_cases hp : o = p
    · subst hp
      cases ho : H.obj o with
      | none => rw [frz1_no (by rw [ho]; simp), ho]; rfl
      | some x =>
        cases x with
        | box k v => rw [frz1_no (by rw [ho]; simp), ho]; rfl
        | sl k ro es =>
          rw [frz1_same ho]
          simp only [frzO, List.mem_cons, true_or, if_true]
          congr 2
          split <;> omega
    · rw [frz1_ne hp]
      unfold frzO
      split
      · simp [hp]
      · rfl
/-- Stable besides: what has been read of the objects os. -/
def FS (β : Pl) (H : Heap) (os : List Nat) (S : Stab) : Stab := fun b j => S b j ∨ ∃ o, o ∈ os ∧ ∃ base k ro es, β o = .at b base k ∧ H.obj o = some (.sl k ro es) ∧ base ≤ j ∧ j < base + es.length * k.size
theorem FS.mono {os os' : List Nat} (h : ∀ o, o ∈ os → o ∈ os') (b j : Nat) (hs : FS β H os S b j) : FS β H os' S b j :=
  hs.elim .inl fun ⟨o, ho, r⟩ => .inr ⟨o, h o ho, r⟩
theorem freeze_ext (hH : HOK C B w S β H) (os : List Nat) : Ext B w S w (FS β H os S) := by
  refine ⟨Below.refl _ _, fun b j h => .inl h, fun _ _ _ => rfl, ?_, fun _ _ _ h => h⟩
  rintro b j (h | ⟨o, -, base, k, ro, es, h1, -⟩)
  · exact .inl h
  · exact .inr (hH.live o b base k h1).1
theorem freeze_swf (hH : HOK C B w S β H) (hS : Swf w S) (os : List Nat) : Swf w (FS β H os S) := by
  rintro b j (h | ⟨o, -, base, k, ro, es, h1, h2, h3, h4⟩)
  · exact hS b j h
  · obtain ⟨-, x, cells, e, ho, hs, hw, hc⟩ := hH.live o b base k h1
    rw [h2] at ho
    cases ho
    obtain ⟨-, c, hf, -, -⟩ := hc
    have hk : 0 < k.size := by
      rcases Nat.eq_zero_or_pos k.size with h0 | h0
      · rw [h0] at h4; omega
      · exact h0
    have hj : (j - base) / k.size < es.length := by
      rw [Nat.div_lt_iff_lt_mul hk]; omega
    have hm := Nat.mod_lt (j - base) hk
    have e1 := Nat.div_add_mod (j - base) k.size
    have := (hf _ hj _ hm).1
    have e2 : base + (j - base) / k.size * k.size + (j - base) % k.size = j := by
      rw [Nat.mul_comm] at e1; omega
    rw [e2] at this
    exact ⟨_, cell_of_heap hw this⟩
theorem freeze_hok (hH : HOK C B w S β H) (os : List Nat) : HOK C B w (FS β H os S) β (frz H os) := by
  have hx := freeze_ext hH os
  refine ⟨?_, ?_, ?_, hH.inj, ?_⟩
  · intro o blk base k hb
    obtain ⟨h1, x, cells, e, ho, hs, hw, hc⟩ := hH.live o blk base k hb
    cases x with
    | box kb v =>
      refine ⟨h1, .box kb v, cells, e, by rw [frz_obj, ho]; rfl, hs, hw, ?_⟩
      obtain ⟨hle, f, hf, hr, hn⟩ := hc
      refine ⟨hle, f, hf, hr.ext hx (Later.refl _), ?_⟩
      rintro j (h | ⟨o', -, base', k', ro', es', h2, h3, -⟩)
      · exact hn j h
      · have := hH.inj o o' blk base k base' k' hb h2
        subst this
        rw [ho] at h3; cases h3
    | sl kb ro es =>
      refine ⟨h1, .sl kb (if o ∈ os then max es.length ro else ro) es, cells, e, by rw [frz_obj, ho]; rfl, hs, hw, ?_⟩
      obtain ⟨hle, c, hf, hr, hn⟩ := hc
      refine ⟨hle, c, hf, fun j hj => (hr j hj).ext hx, ?_⟩
      simp only [Obj.shape] at hs
      subst hs
      rintro j hj (h | ⟨o', h5, base', k', ro', es', h2, h3, h4, h6⟩)
      · refine hn j (Nat.le_trans (Nat.add_le_add_left (Nat.mul_le_mul_right _ ?_) _) hj) h
        split <;> omega
      · have := hH.inj o o' blk base kb base' k' hb h2
        subst this
        rw [ho] at h3; cases h3
        rw [hb] at h2; cases h2
        rw [if_pos h5] at hj
        have := Nat.mul_le_mul_right kb.size (Nat.le_max_left es.length ro)
        omega
  · intro o ho
    rw [frz_obj, hH.dead o ho]; rfl
  · intro o ho
    obtain ⟨k, ro, h⟩ := hH.virt o ho
    exact ⟨k, _, by rw [frz_obj, h]; rfl⟩
  · intro o ho
    rw [frz_length] at ho
    exact hH.out o ho
/-- A value read as plain data. -/
theorem purC_rel (hH : HOK C B w S β H) {v : PV} {x : DV} {os : List Nat} {u : Value} (hv : RelV C w S β v u) (h : purC H v = some (x, os)) : RelD w (FS β H os S) x u := by
  unfold purC at h
  split at h
  · cases h
    cases hv with
    | d _ _ hv =>
    cases hv with
    | l _ _ _ a cap blk off c c1 c2 c3 c4 c5 =>
    exact (RelD.l _ _ false a cap blk off c c1 (fun h => by cases h) c3 c4 c5).more (fun _ _ h => .inl h)
  · cases h
    cases hv with
    | d _ _ hv => exact hv.more (fun _ _ h => .inl h)
  · rename_i o k off len t
    split at h
    · rename_i k' ro es ho
      split at h
      · rename_i hc
        obtain ⟨rfl, hle⟩ := hc
        cases h
        cases hv with
        | r _ _ _ _ _ _ h0 hx =>
        unfold RelRf at hx
        have hlen : ((es.drop off).take len).length = len := by simp; omega
        split at hx
        · exact hx.elim
        · rename_i hb; rw [hH.dead o hb] at ho; cases ho
        · obtain ⟨rfl, rfl, a, rfl⟩ := hx
          have := RelD.l (w := w) (S := FS β H [o] S) k' [] false a 0 0 0 (fun _ _ => undef) (Nat.le_refl _) (fun h => by cases h) (fun h => absurd h (Nat.lt_irrefl _)) (fun _ hj => absurd hj (Nat.not_lt_zero _)) (fun _ hj => absurd hj (Nat.not_lt_zero _))
          simpa using this
        · rename_i blk base k3 hb
          obtain ⟨e1, cap, a, rfl, e2, e3, e4, e', n, e5, e6⟩ := hx
          subst e1
          obtain ⟨-, x, cells, e0, ho', hs, hw, hc⟩ := hH.live o blk base k3 hb
          rw [ho] at ho'
          cases ho'
          obtain ⟨-, c, hf, hr, -⟩ := hc
          have hfin : RelD w (FS β H [o] S) (.l k3 ((es.drop off).take len) false) (.slice (some a) ((es.drop off).take len).length cap) := by
            refine .l _ _ _ _ _ blk (base + off * k3.size) (fun j => c (off + j)) (by omega) (fun h => by cases h) ?_ ?_ ?_
            · intro h; rw [e2 (by omega)]
            · intro j hj m hm
              have hj' : off + j < es.length := by omega
              have e7 : base + off * k3.size + j * k3.size + m = base + (off + j) * k3.size + m := by rw [Nat.add_mul]; omega
              refine ⟨?_, .inr ⟨o, by simp, base, k3, ro, es, hb, ho, by omega, ?_⟩, (hf _ hj' m hm).2⟩
              · rw [e7]; exact cell_of_heap hw (hf _ hj' m hm).1
              · rw [e7]
                have : (off + j + 1) * k3.size ≤ es.length * k3.size := Nat.mul_le_mul_right _ hj'
                rw [Nat.add_mul, Nat.one_mul] at this
                omega
            · intro j hj
              have hj' : off + j < es.length := by omega
              have := (hr _ hj').more (S' := FS β H [o] S) (fun _ _ h => .inl h)
              simpa [List.getElem_drop, List.getElem_take] using this
          rw [hlen] at hfin
          exact hfin
      · cases h
    · cases h
  · cases h
theorem RelD.mono {S S' : Stab} (e : ∀ b o, S b o → S' b o) {x : DV} {v : Value} (h : RelD w S x v) : RelD w S' x v := h.more e
theorem purL_rel (hH : HOK C B w S β H) : ∀ {vs : List PV} {xs : List DV} {os : List Nat}, purL H vs = some (xs, os) → xs.length = vs.length ∧
    ∀ (us : List Value), (∀ j (h : j < vs.length) (h' : j < us.length), RelV C w S β vs[j] us[j]) → ∀ j (h : j < xs.length) (h' : j < us.length), RelD w (FS β H os S) xs[j] us[j]
  | [], xs, os, h => by cases h; exact ⟨rfl, fun us _ j h => absurd h (Nat.not_lt_zero _)⟩
  | v :: r, xs, os, h => by
    unfold purL at h
    split at h
    · rename_i x os1 xs1 ps h1 h2
      cases h
      obtain ⟨e1, e2⟩ := purL_rel hH h2
      refine ⟨by simp [e1], ?_⟩
      intro us hus j hj hj'
      cases us with
      | nil => exact absurd hj' (Nat.not_lt_zero _)
      | cons u us =>
        cases j with
        | zero => exact (purC_rel hH (hus 0 (by simp) (by simp)) h1).more (FS.mono (by simp; intro o h; exact .inl h))
        | succ j =>
          have := e2 us (fun i hi hi' => by have := hus (i + 1) (by simpa using hi) (by simpa using hi'); simpa using this) j (by simpa using hj) (by simpa using hj')
          exact this.more (FS.mono (by simp; intro o h; exact .inr h))
    · cases h
theorem pur_rel (hH : HOK C B w S β H) {v : PV} {x : DV} {os : List Nat} {u : Value} (hv : RelV C w S β v u) (h : pur H v = some (x, os)) : RelD w (FS β H os S) x u := by
  unfold pur at h
  split at h
  · split at h
    · rename_i xs os1 h1
      cases h
      cases hv with
      | a _ vs e1 e2 e3 =>
      obtain ⟨h2, h3⟩ := purL_rel hH h1
      exact .a xs vs (by omega) e2 (h3 vs e3)
    · cases h
  · exact purC_rel hH hv h
theorem purs_rel (hH : HOK C B w S β H) : ∀ {vs : List PV} {xs : List DV} {os : List Nat}, purs H vs = some (xs, os) → xs.length = vs.length ∧
    ∀ (us : List Value), (∀ j (h : j < vs.length) (h' : j < us.length), RelV C w S β vs[j] us[j]) → ∀ j (h : j < xs.length) (h' : j < us.length), RelD w (FS β H os S) xs[j] us[j]
  | [], xs, os, h => by cases h; exact ⟨rfl, fun us _ j h => absurd h (Nat.not_lt_zero _)⟩
  | v :: r, xs, os, h => by
    unfold purs at h
    split at h
    · rename_i x os1 xs1 ps h1 h2
      cases h
      obtain ⟨e1, e2⟩ := purs_rel hH h2
      refine ⟨by simp [e1], ?_⟩
      intro us hus j hj hj'
      cases us with
      | nil => exact absurd hj' (Nat.not_lt_zero _)
      | cons u us =>
        cases j with
        | zero => exact (pur_rel hH (hus 0 (by simp) (by simp)) h1).more (FS.mono (by simp; intro o h; exact .inl h))
        | succ j =>
          have := e2 us (fun i hi hi' => by have := hus (i + 1) (by simpa using hi) (by simpa using hi'); simpa using this) j (by simpa using hj) (by simpa using hj')
          exact this.more (FS.mono (by simp; intro o h; exact .inr h))
    · cases h
end
end Go.Sim
