/- Building structs and slices; making; appending; copying. -/
import Derived.Test.YtbbboagbgimaaaaDoorCbSimS
import Derived.Laws.Append
open Go.RowKit
namespace Go.Sim
section
variable {P : Program} {N : Names} {C : Cx} {w : World} {S : Stab} {β : Pl} {B : Nat} {H : Heap}
theorem fold_set (off : Nat) : ∀ (l : List Value) (k : Nat) (A : Array Value), off + k + l.length ≤ A.size →
    (l.zipIdx k).foldl (fun cs p => cs.setIfInBounds (off + p.2) p.1) A = (putAt A.toList (off + k) l).toArray
  | [], k, A, _ => by simp [putAt]
  | v :: r, k, A, h => by
    simp only [List.length_cons] at h
    rw [List.zipIdx_cons, List.foldl_cons, fold_set off r (k + 1) _ (by simp; omega)]
    have := list_seg_step A.toList (off + k) v r (by simpa using (by omega : off + k + (r.length + 1) ≤ A.size))
    congr 1
    unfold putAt
    simp only [Array.toList_setIfInBounds, List.length_cons]
    rw [show off + (k + 1) = off + k + 1 by omega]
    exact this
theorem fill_cons {place : Nat → Option (Nat × Nat)} {i off size : Nat} {v : Value} {rest : List (Nat × Value)} {A : Array Value} (hp : place i = some (off, size)) (hs : v.cells.size = size) (hle : off + size ≤ A.size) :
    Instr.fill place A ((i, v) :: rest) = Instr.fill place (putAt A.toList off v.cells.toList).toArray rest := by
  have h1 : ¬ (v.cells.size ≠ size || off + v.cells.size > A.size) = true := by simp [hs]; omega
  simp only [Instr.fill, hp]
  rw [if_neg (by simpa using h1)]
  congr 1
  have := fold_set off v.cells.toList 0 A (by simp [hs]; omega)
  rw [← Array.foldl_toList, Array.toList_zipIdx]
  simpa using this
/-- Cells that stand for a list of values. -/
def CRel (C : Cx) (w : World) (S : Stab) (β : Pl) (z : List PV) (A : List Value) : Prop :=
  z.length = A.length ∧ (∀ v ∈ A, flat v) ∧ ∀ j (h : j < z.length) (h' : j < A.length), RelV C w S β z[j] A[j]
theorem CRel.putAt {z : List PV} {A : List Value} (h : CRel C w S β z A) {off : Nat} {xs : List PV} {us : List Value} (hx : CRel C w S β xs us) (hle : off + xs.length ≤ z.length) : CRel C w S β (putAt z off xs) (putAt A off us) := by
  obtain ⟨h1, h2, h3⟩ := h
  obtain ⟨x1, x2, x3⟩ := hx
  have hle' : off + us.length ≤ A.length := by omega
  refine ⟨by rw [putAt_length hle, putAt_length hle']; exact h1, ?_, ?_⟩
  · intro v hv
    unfold Sim.putAt at hv
    rcases List.mem_append.1 hv with hv | hv
    · rcases List.mem_append.1 hv with hv | hv
      · exact h2 v (List.mem_of_mem_take hv)
      · exact x2 v hv
    · exact h2 v (List.mem_of_mem_drop hv)
  · intro j hj hj'
    have e1 := putAt_get hle j
    have e2 := putAt_get hle' j
    rw [List.getElem?_eq_getElem hj] at e1
    rw [List.getElem?_eq_getElem hj'] at e2
    rw [x1] at e1
    split at e1
    · rename_i hc
      rw [if_pos hc] at e2
      rw [List.getElem?_eq_getElem (by omega), Option.some.injEq] at e1 e2
      rw [e1, e2]
      exact x3 _ _ _
    · rename_i hc
      rw [if_neg hc] at e2
      rw [putAt_length hle] at hj
      rw [List.getElem?_eq_getElem (by omega), Option.some.injEq] at e1 e2
      rw [e1, e2]
      exact h3 _ _ _
theorem cells_crel {k : K} {v : PV} {u : Value} (hf : fits k v = true) (hv : RelV C w S β v u) : CRel C w S β v.cells u.cells.toList ∧ u.cells.size = k.size := by
  obtain ⟨f, rfl, hfl⟩ := fits_mkV hf hv
  have hl := fits_cells_length hf
  rw [mkV_cells hfl]
  refine ⟨⟨by simp [hl], ?_, ?_⟩, by simp⟩
  · intro x hx
    simp only [List.mem_map, List.mem_range] at hx
    obtain ⟨m, hm, rfl⟩ := hx
    exact hfl m hm
  · intro j hj hj'
    have := hv.cells hfl j v.cells[j] (List.getElem?_eq_getElem hj) (by omega)
    simpa using this
theorem mkA_rel {z : List PV} {A : List Value} (h : CRel C w S β z A) : RelV C w S β (mkA z) (.agg A.toArray) := by
  obtain ⟨h1, h2, h3⟩ := h
  unfold mkA
  split
  · rename_i vs hp
    have := plains_map hp
    subst this
    refine .d _ _ (.a vs A (by simpa using h1) h2 ?_)
    intro j hj hj'
    have := h3 j (by simpa using hj) hj'
    simp only [List.getElem_map] at this
    cases this with
    | d _ _ h => exact h
  · exact .a z A h1 h2 h3
/-- The values of parts. -/
def PartsRel (C : Cx) (w : World) (S : Stab) (β : Pl) (place : Nat → Option (Nat × Nat)) : List (Nat × K × PV) → List (Nat × Value) → Prop
  | [], [] => True
  | (off, k, v) :: r, (i, u) :: s => place i = some (off, k.size) ∧ RelV C w S β v u ∧ PartsRel C w S β place r s
  | _, _ => False
theorem aggA_sound {place : Nat → Option (Nat × Nat)} : ∀ {parts : List (Nat × K × PV)} {us : List (Nat × Value)} {z cs : List PV} {A : List Value}, CRel C w S β z A → PartsRel C w S β place parts us → aggA z parts = some cs →
    ∃ A', Instr.fill place A.toArray us = some A'.toArray ∧ CRel C w S β cs A'
  | [], [], z, cs, A, h, _, ha => by cases ha; exact ⟨A, rfl, h⟩
  | [], _ :: _, _, _, _, _, hp, _ => hp.elim
  | _ :: _, [], _, _, _, _, hp, _ => by unfold PartsRel at hp; exact hp.elim
  | (off, k, v) :: r, (i, u) :: s, z, cs, A, h, hp, ha => by
    obtain ⟨p1, p2, p3⟩ := hp
    unfold aggA at ha
    split at ha
    · rename_i hc
      simp only [Bool.and_eq_true, decide_eq_true_eq] at hc
      obtain ⟨c1, c2⟩ := cells_crel hc.1 p2
      have hl := fits_cells_length hc.1
      have h' := h.putAt c1 (by rw [hl]; exact hc.2)
      obtain ⟨A', e1, e2⟩ := aggA_sound h' p3 ha
      refine ⟨A', ?_, e2⟩
      rw [fill_cons p1 c2 (by simp only [List.size_toArray]; rw [← h.1]; exact hc.2)]
      exact e1
    · cases ha
def placeOf (f : Field) : Sem (Nat × Nat) := do pure (f.offset, ← sizeOf f.type)
theorem run_placeOf {f : Field} (h : (P.info? f.type).isSome = true) (w : World) : (placeOf f).run P w = .ok (f.offset, P.cellsOf f.type) w := by
  obtain ⟨i, hi⟩ := Option.isSome_iff_exists.1 h
  simp [placeOf, sizeOf, typeInfo, hi, Program.cellsOf]
theorem run_places {fs : List Field} (h : fs.all (fun f => (P.info? f.type).isSome) = true) (w : World) :
    (fs.mapM placeOf).run P w = .ok (fs.map fun f => (f.offset, P.cellsOf f.type)) w := by
  induction fs with
  | nil => rfl
  | cons f r ih =>
    simp only [List.all_cons, Bool.and_eq_true] at h
    simp only [List.mapM_cons, Sem.run_bind, run_placeOf h.1, Result.andThen_ok, ih h.2, Sem.run_pure, List.map_cons]
theorem zero_crel {k : K} {z : DV} {v : Value} (hf : fits k (.d z) = true) (hz : ∀ (w : World) (S : Stab), RelD w S z v) : CRel C w S β (z.cells.map .d) v.cells.toList ∧ v.cells.size = k.size := by
  have := cells_crel (C := C) (β := β) hf (.d _ _ (hz w S))
  rwa [DV.cells_map] at this
theorem build_struct_sound {t : TypeId} {z : DV} (hz : zq P t = some z) {fs : Array Field} (hu : P.underlying t = some (.struct fs)) (hall : fs.toList.all (fun f => (P.info? f.type).isSome) = true)
    {parts : List (Nat × K × PV)} {us : List (Nat × Value)} (hp : PartsRel C w S β (fun i => (fs[i]?).map fun f => (f.offset, P.cellsOf f.type)) parts us) {cs : List PV} (h : aggA (z.cells.map .d) parts = some cs) :
    ∃ u, (Instr.build t us.toArray).run P w = .ok u w ∧ RelV C w S β (mkA cs) u := by
  obtain ⟨k, v, hk, hv, hf, hr⟩ := zq_rel hz
  obtain ⟨h1, h2⟩ := zero_crel (C := C) (w := w) (S := S) (β := β) hf hr
  obtain ⟨A', e1, e2⟩ := aggA_sound h1 hp h
  refine ⟨.agg A'.toArray, ?_, mkA_rel e2⟩
  have hplaces : (fs.mapM placeOf).run P w = .ok (fs.map fun f => (f.offset, P.cellsOf f.type)) w := by
    rw [Array.mapM_eq_mapM_toList, Sem.run_map, run_places hall]
    simp only [Result.andThen_ok]
    congr 1
    apply Array.ext'
    simp
  have hfill : Instr.fill ((fs.map fun f => (f.offset, P.cellsOf f.type))[·]?) v.cells us = some A'.toArray := by
    rw [← Array.toArray_toList (xs := v.cells), ← e1]
    congr 1
    funext i
    simp
  simp only [Instr.build, Sem.run_bind, run_zero hv, Result.andThen_ok, run_und hu]
  show Result.andThen ((fs.mapM placeOf).run P w) _ = _
  rw [hplaces]
  simp only [Result.andThen_ok, hfill, Sem.run_pure]
theorem build_array_sound {t e : TypeId} {n : Nat} {z : DV} (hz : zq P t = some z) (hu : P.underlying t = some (.array n e)) {k : K} (hke : kq P e = some k)
    {parts : List (Nat × K × PV)} {us : List (Nat × Value)} (hp : PartsRel C w S β (fun i => some (i * P.cellsOf e, P.cellsOf e)) parts us) {cs : List PV} (h : aggA (z.cells.map .d) parts = some cs) :
    ∃ u, (Instr.build t us.toArray).run P w = .ok u w ∧ RelV C w S β (mkA cs) u := by
  obtain ⟨k', v, hk, hv, hf, hr⟩ := zq_rel hz
  obtain ⟨h1, h2⟩ := zero_crel (C := C) (w := w) (S := S) (β := β) hf hr
  obtain ⟨A', e1, e2⟩ := aggA_sound h1 hp h
  refine ⟨.agg A'.toArray, ?_, mkA_rel e2⟩
  have hfill : Instr.fill (fun i => some (i * k.size, k.size)) v.cells us = some A'.toArray := by
    rw [← Array.toArray_toList (xs := v.cells), ← e1]
    congr 1
    funext i
    rw [kq_size hke]
  simp [Instr.build, run_zero hv, run_und hu, run_sizeK hke, hfill]
/-- A row of cells that stands for a list of elements. -/
def ERel (w : World) (S : Stab) (k : K) (es : List DV) (A : List Value) : Prop :=
  es.length * k.size ≤ A.length ∧ ∃ c : Nat → Nat → Value, (∀ j, j < es.length → ∀ m, m < k.size → A[j * k.size + m]? = some (c j m) ∧ flat (c j m)) ∧ ∀ j (h : j < es.length), RelD w S es[j] (mkV k (c j))
theorem mul_block {i j s m : Nat} (h : j ≠ i) (hm : m < s) (c1 : i * s ≤ j * s + m) (c2 : j * s + m < i * s + s) : False := by
  rcases Nat.lt_or_gt_of_ne h with h1 | h1
  · have : (j + 1) * s ≤ i * s := Nat.mul_le_mul_right _ h1
    rw [Nat.add_mul, Nat.one_mul] at this
    omega
  · have : (i + 1) * s ≤ j * s := Nat.mul_le_mul_right _ h1
    rw [Nat.add_mul, Nat.one_mul] at this
    omega
theorem ERel.set {k : K} {es : List DV} {A : List Value} (h : ERel w S k es A) {i : Nat} (hi : i < es.length) {x : DV} {g : Nat → Value} (hg : ∀ m, m < k.size → flat (g m)) (hx : RelD w S x (mkV k g)) :
    ERel w S k (es.set i x) (putAt A (i * k.size) ((List.range k.size).map g)) := by
  obtain ⟨hle, c, hf, hr⟩ := h
  have hi1 : (i + 1) * k.size ≤ es.length * k.size := Nat.mul_le_mul_right _ hi
  rw [Nat.add_mul, Nat.one_mul] at hi1
  have hrl : ((List.range k.size).map g).length = k.size := by simp
  have hget := putAt_get (l := A) (c := i * k.size) (xs := (List.range k.size).map g) (by rw [hrl]; omega)
  rw [hrl] at hget
  refine ⟨by rw [putAt_length (by rw [hrl]; omega), List.length_set]; exact hle, (fun j m => if j = i then g m else c j m), ?_, ?_⟩
  · intro j hj m hm
    rw [List.length_set] at hj
    rw [hget]
    by_cases hji : j = i
    · subst hji
      have hc2 : j * k.size ≤ j * k.size + m ∧ j * k.size + m < j * k.size + k.size := by omega
      simp only [hc2, and_self, if_true]
      have : j * k.size + m - j * k.size = m := by omega
      rw [this]
      exact ⟨map_range_get g hm, hg _ hm⟩
    · have hc2 : ¬ (i * k.size ≤ j * k.size + m ∧ j * k.size + m < i * k.size + k.size) := fun hc => mul_block hji hm hc.1 hc.2
      simp only [hji, hc2, if_false]
      exact hf j hj m hm
  · intro j hj
    rw [List.length_set] at hj
    rw [List.getElem_set]
    by_cases hji : i = j
    · subst hji
      simp only [if_true]
      exact hx
    · have : ¬ j = i := fun h => hji h.symm
      simp only [hji, this, if_false]
      exact hr j hj
theorem ERel.mono {S' : Stab} {k : K} {es : List DV} {A : List Value} (h : ERel w S k es A) (e : ∀ b o, S b o → S' b o) : ERel w S' k es A := by
  obtain ⟨h0, c, h1, h2⟩ := h
  exact ⟨h0, c, h1, fun j hj => (h2 j hj).more e⟩
/-- The parts of a slice literal. -/
def SPartsRel (C : Cx) (w : World) (S : Stab) (β : Pl) : List (Nat × PV) → List (Nat × Value) → Prop
  | [], [] => True
  | (j, v) :: r, (i, u) :: s => i = j ∧ RelV C w S β v u ∧ SPartsRel C w S β r s
  | _, _ => False
theorem bslA_sound (hH : HOK C B w S β H) {k : K} : ∀ {parts : List (Nat × PV)} {us : List (Nat × Value)} {es es' : List DV} {os : List Nat} {A : List Value} (S' : Stab), (∀ b j, S b j → S' b j) → (∀ b j, FS β H os S b j → S' b j) →
    ERel w S' k es A → SPartsRel C w S β parts us → bslA H k es parts = some (es', os) → ∃ A', Instr.fill (fun i => some (i * k.size, k.size)) A.toArray us = some A'.toArray ∧ ERel w S' k es' A' ∧ es'.length = es.length ∧ A'.length = A.length
  | [], [], es, es', os, A, S', hs, hs', h, _, hb => by cases hb; exact ⟨A, rfl, h, rfl, rfl⟩
  | [], _ :: _, _, _, _, _, _, _, _, _, hp, _ => hp.elim
  | _ :: _, [], _, _, _, _, _, _, _, _, hp, _ => by unfold SPartsRel at hp; exact hp.elim
  | (j, v) :: r, (i, u) :: s, es, es', os, A, S', hs, hs', h, hp, hb => by
    obtain ⟨rfl, p2, p3⟩ := hp
    unfold bslA at hb
    split at hb
    · rename_i hc
      simp only [Bool.and_eq_true, decide_eq_true_eq] at hc
      split at hb
      · rename_i x os1 hpur
        split at hb
        · rename_i es1 ps hb'
          cases hb
          obtain ⟨g, rfl, hg⟩ := fits_mkV hc.1 p2
          have hx := (pur_rel hH p2 hpur).more (S' := S') (fun b j hj => hs' b j (FS.mono (fun o ho => List.mem_append_left _ ho) b j hj))
          have h' := h.set hc.2 hg hx
          obtain ⟨A', e1, e2, e3, e4⟩ := bslA_sound hH S' hs (fun b j hj => hs' b j (FS.mono (fun o ho => List.mem_append_right _ ho) b j hj)) h' p3 hb'
          have hi1 : (i + 1) * k.size ≤ es.length * k.size := Nat.mul_le_mul_right _ hc.2
          rw [Nat.add_mul, Nat.one_mul] at hi1
          refine ⟨A', ?_, e2, by rw [e3, List.length_set], by rw [e4, putAt_length (by have := h.1; simp; omega)]⟩
          rw [fill_cons (off := i * k.size) (size := k.size) rfl (by rw [mkV_cells hg]; simp) (by have := h.1; simp only [List.size_toArray]; omega)]
          rw [mkV_cells hg]
          exact e1
        · cases hb
      · cases hb
    · cases hb
theorem zrow {n : Nat} {k : K} {z : DV} {v : Value} (hf : fits k (.d z) = true) (hz : ∀ (w : World) (S : Stab), RelD w S z v) (zs : Array Value) (hzs : n * k.size ≠ 0 → zs = v.cells) :
    ERel w S k (List.replicate n z) ((Array.range (n * k.size)).map (zs[· % zs.size]!)).toList := by
  obtain ⟨f, rfl, hfl⟩ := fits_mkV (C := ⟨fun _ => 0⟩) (β := fun _ => .pend) hf (.d _ _ (hz w S))
  refine ⟨by simp, (fun _ m => f m), ?_, ?_⟩
  · intro j hj m hm
    rw [List.length_replicate] at hj
    have hjm : j * k.size + m < n * k.size := by
      have : (j + 1) * k.size ≤ n * k.size := Nat.mul_le_mul_right _ hj
      rw [Nat.add_mul, Nat.one_mul] at this
      omega
    have := hzs (by omega)
    subst this
    refine ⟨?_, hfl m hm⟩
    rw [mkV_cells hfl]
    have e1 : (j * k.size + m) % k.size = m := by
      rw [Nat.add_comm, Nat.add_mul_mod_self_right, Nat.mod_eq_of_lt hm]
    simp only [Array.toList_map, Array.toList_range, List.getElem?_map, List.getElem?_range hjm, Option.map_some, List.size_toArray, List.length_map, List.length_range, e1]
    simp [hm]
  · intro j hj
    rw [List.getElem_replicate]
    exact hz w S
/-- A new row. -/
theorem new_row_at (hH : HOK C B w S β H) (hS : Swf w S) (hB : B ≤ w.heap.size) {id : Nat} (hp : β id = .pend) (hlt : id < H.length) {k : K} {es : List DV} {A : List Value} (h : ERel w S k es A) (t : TypeId) (ro : Nat) {len cap : Nat} {tt : Bool} (hcap : cap * k.size ≤ A.length) (hlc : len ≤ cap) (htt : tt = true → cap = len) :
    Ext B w S (w.alloc (.cells A.toArray t)) S ∧ HOK C B (w.alloc (.cells A.toArray t)) S (upd β id (.at w.heap.size 0 k)) (H.put id (some (.sl k ro es))) ∧ Later β (upd β id (.at w.heap.size 0 k)) ∧
      RelV C (w.alloc (.cells A.toArray t)) S (upd β id (.at w.heap.size 0 k)) (.r id k 0 len tt) (.slice (some ⟨w.heap.size, 0, none⟩) len cap) := by
  obtain ⟨h0, c, h1, h2⟩ := h
  have hc : OCells C w S β A.toArray w.heap.size 0 (.sl k ro es) := by
    refine ⟨by simpa using h0, c, ?_, h2, fun j _ h => absurd (hS.lt h) (Nat.lt_irrefl _)⟩
    intro j hj m hm
    simpa using h1 j hj m hm
  obtain ⟨e1, e2, e3⟩ := hok_new hH hS hB hp hlt (e := t) hc
  refine ⟨alloc_ext hS hB _, e1, e2, .r _ _ _ _ _ _ rfl ?_⟩
  unfold RelRf
  rw [upd_same]
  refine ⟨rfl, cap, _, rfl, fun _ => by simp, hlc, htt, t, A.length, ?_, by simpa using hcap⟩
  show (match (w.heap.push _)[w.heap.size]? with | some (.cells c elem _) => some (elem, c.size) | _ => none) = _
  simp
end
end Go.Sim
