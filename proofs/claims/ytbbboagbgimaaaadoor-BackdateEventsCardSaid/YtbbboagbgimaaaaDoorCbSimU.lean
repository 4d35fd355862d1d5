/- append, make, copy. -/
import Derived.Test.YtbbboagbgimaaaaDoorCbSimT
open Go.RowKit
namespace Go.Sim
section
variable {P : Program} {N : Names} {C : Cx} {w : World} {S : Stab} {β : Pl} {B : Nat} {H : Heap}
/-- The elements that a value holds, as cells that can be read. -/
structure Reads (P : Program) (w : World) (S : Stab) (k : K) (ys : List DV) (u : Value) (A : List Value) : Prop where
  len : (Builtin.lenOf u).run P w = .ok ys.length w
  cells : ∀ n, n ≤ ys.length → ∀ w' : World, w'.heap = w.heap → (Builtin.firstCells k.size n u).run P w' = .ok (A.take (n * k.size)).toArray w'
  size : A.length = ys.length * k.size
  rel : ERel w S k ys A
theorem read_row {k : K} {ys : List DV} {u : Value} {c : Nat → Nat → Value} {blk off len cap : Nat} (hu : u = .slice (some ⟨blk, off, none⟩) len cap) (hl : len = ys.length)
    (hc : ∀ j, j < ys.length → ∀ m, m < k.size → w.cell? ⟨blk, off + j * k.size + m, none⟩ = some (c j m) ∧ flat (c j m)) (hr : ∀ j (h : j < ys.length), RelD w S ys[j] (mkV k (c j))) : ∃ A, Reads P w S k ys u A := by
  subst hu hl
  have hA : ∀ x, x < ys.length * k.size → x / k.size < ys.length ∧ x % k.size < k.size ∧ x / k.size * k.size + x % k.size = x := by
    intro x hx
    have hk : 0 < k.size := by
      rcases Nat.eq_zero_or_pos k.size with h0 | h0
      · rw [h0] at hx; omega
      · exact h0
    refine ⟨(Nat.div_lt_iff_lt_mul hk).2 hx, Nat.mod_lt _ hk, ?_⟩
    rw [Nat.mul_comm]; exact Nat.div_add_mod x k.size
  refine ⟨(List.range (ys.length * k.size)).map fun x => c (x / k.size) (x % k.size), ?_, ?_, by simp, ?_⟩
  · simp [Builtin.lenOf]
  · intro n hn w' hw'
    have hnk : n * k.size ≤ ys.length * k.size := Nat.mul_le_mul_right _ hn
    have := run_loadCells (P := P) w' ⟨blk, off, none⟩ (n * k.size) (fun x => c (x / k.size) (x % k.size)) (fun j hj => by
      obtain ⟨h1, h2, h3⟩ := hA j (by omega)
      rw [add_at]
      have := (hc _ h1 _ h2).1
      have e : off + j / k.size * k.size + j % k.size = off + j := by omega
      rw [e] at this
      rw [← this]
      simp only [World.cell?, hw'])
    simp only [Builtin.firstCells, this]
    congr 2
    rw [← List.map_take, List.take_range, Nat.min_eq_left hnk]
  · refine ⟨by simp, c, ?_, hr⟩
    intro j hj m hm
    have hjm : j * k.size + m < ys.length * k.size := by
      have : (j + 1) * k.size ≤ ys.length * k.size := Nat.mul_le_mul_right _ hj
      rw [Nat.add_mul, Nat.one_mul] at this
      omega
    refine ⟨?_, (hc j hj m hm).2⟩
    rw [map_range_get _ hjm]
    have e1 : (j * k.size + m) % k.size = m := by rw [Nat.add_comm, Nat.add_mul_mod_self_right, Nat.mod_eq_of_lt hm]
    have e2 : (j * k.size + m) / k.size = j := by
      rw [Nat.add_comm, Nat.add_mul_div_right _ _ (by omega), Nat.div_eq_of_lt hm, Nat.zero_add]
    rw [e1, e2]
theorem read_none {k : K} (a : Option Addr) (cap : Nat) (t : Bool) : Reads P w S k ([] : List DV) (.slice a 0 cap) [] := by
  refine ⟨by simp [Builtin.lenOf], ?_, by simp, ⟨by simp, fun _ _ => undef, fun j hj => absurd hj (Nat.not_lt_zero _), fun j hj => absurd hj (Nat.not_lt_zero _)⟩⟩
  intro n hn w' _
  have : n = 0 := by simpa using hn
  subst this
  cases a <;> simp [Builtin.firstCells, loadCells, loadCellsFrom]
theorem elemsA_sound (hH : HOK C B w S β H) {k : K} {y : PV} {u : Value} {ys : List DV} (hy : RelV C w S β y u) (h : elemsA H k y = some ys) : ∃ A, Reads P w S k ys u A := by
  unfold elemsA at h
  split at h
  · rename_i k' es t
    split at h
    · rename_i hke
      cases h
      cases hy with
      | d _ _ hy =>
      cases hy with
      | l _ _ _ a cap blk off c c1 c2 c3 c4 c5 =>
      cases hes : ys with
      | nil => subst hes; exact ⟨_, read_none a cap true⟩
      | cons e r =>
        rw [← hes]
        have h0 : 0 < ys.length := by rw [hes]; simp
        have hk : k = k' := by
          rcases Bool.or_eq_true _ _ ▸ hke with hq | hq
          · exact K.eq_spec hq
          · rw [hes] at hq; simp at hq
        subst hk
        exact read_row (c := c) (by rw [c3 h0]) rfl (fun j hj m hm => ⟨(c4 j hj m hm).1, (c4 j hj m hm).2.2⟩) c5
    · cases h
  · rename_i o k' off len t
    split at h
    · rename_i k'' ro es ho
      split at h
      · rename_i hc
        simp only [Bool.and_eq_true, decide_eq_true_eq] at hc
        obtain ⟨⟨hk1, hk2⟩, hle⟩ := hc
        have := K.eq_spec hk1
        subst this
        have := K.eq_spec hk2
        subst this
        cases h
        cases hy with
        | r _ _ _ _ _ _ h0 hx =>
        have hlen : ((es.drop off).take len).length = len := by simp; omega
        unfold RelRf at hx
        split at hx
        · exact hx.elim
        · rename_i hb; rw [hH.dead o hb] at ho; cases ho
        · obtain ⟨rfl, rfl, a, rfl⟩ := hx
          exact ⟨_, by simpa using read_none (P := P) (w := w) (S := S) (k := k) a 0 true⟩
        · rename_i blk base k3 hb
          obtain ⟨e1, cap, a, rfl, e2, e3, e4, e', n, e5, e6⟩ := hx
          subst e1
          obtain ⟨-, x, cells, e0, ho', hs, hw, hc⟩ := hH.live o blk base k3 hb
          rw [ho] at ho'
          cases ho'
          obtain ⟨-, c, hf, hr, -⟩ := hc
          rcases Nat.eq_zero_or_pos len with h0 | h0
          · subst h0
            have : (es.drop off).take 0 = [] := by simp
            rw [this]
            exact ⟨_, read_none (some a) cap true⟩
          · refine read_row (c := fun j => c (off + j)) (by rw [e2 (by omega)]) hlen.symm ?_ ?_
            · intro j hj m hm
              have hj' : off + j < es.length := by omega
              have e7 : base + off * k3.size + j * k3.size + m = base + (off + j) * k3.size + m := by rw [Nat.add_mul]; omega
              rw [e7]
              exact ⟨cell_of_heap hw (hf _ hj' m hm).1, (hf _ hj' m hm).2⟩
            · intro j hj
              have := hr (off + j) (by omega)
              simpa [List.getElem_drop, List.getElem_take] using this
      · cases h
    · cases h
  · rename_i x
    split at h
    · rename_i hk
      have := K.eq_spec hk
      subst this
      cases h
      cases hy with
      | d _ _ hy =>
      cases hy with
      | s _ s hs =>
      subst hs
      refine ⟨s.data.toList.map fun b => .int .u8 b.toNat, ?_, ?_, by simp [bytesOf, K.size], ?_⟩
      · simp [Builtin.lenOf, bytesOf]
      · intro n hn w' _
        simp only [Builtin.firstCells, K.size, Nat.mul_one, Sem.run_pure]
        congr 1
        apply Array.ext'
        rw [Array.toList_map, ByteArray.data_extract, Array.toList_extract, List.extract_eq_take_drop]
        simp
      · refine ⟨by simp [bytesOf, K.size], fun j _ => .int .u8 ((s.data.toList.getD j 0).toNat), ?_, ?_⟩
        · intro j hj m hm
          have : m = 0 := by simp [K.size] at hm; exact hm
          subst this
          have hj' : j < s.data.toList.length := by simpa [bytesOf] using hj
          simp only [K.size, Nat.mul_one, Nat.add_zero]
          refine ⟨?_, rfl⟩
          rw [List.getElem?_map, List.getElem?_eq_getElem hj']
          simp [List.getD, List.getElem?_eq_getElem hj']
        · intro j hj
          have hj' : j < s.data.toList.length := by simpa [bytesOf] using hj
          simp only [bytesOf, List.getElem_map, mkV, List.getD, List.getElem?_eq_getElem hj', Option.getD_some]
          exact .i _ _
    · cases h
  · cases h
theorem ERel.append {k : K} {es ys : List DV} {A A' : List Value} (h : ERel w S k es A) (hl : A.length = es.length * k.size) (h' : ERel w S k ys A') : ERel w S k (es ++ ys) (A ++ A') := by
  obtain ⟨h0, c, h1, h2⟩ := h
  obtain ⟨g0, c', g1, g2⟩ := h'
  refine ⟨by simp [Nat.add_mul]; omega, (fun j m => if j < es.length then c j m else c' (j - es.length) m), ?_, ?_⟩
  · intro j hj m hm
    by_cases hje : j < es.length
    · simp only [hje, if_true]
      have : j * k.size + m < A.length := by
        have : (j + 1) * k.size ≤ es.length * k.size := Nat.mul_le_mul_right _ hje
        rw [Nat.add_mul, Nat.one_mul] at this
        omega
      rw [List.getElem?_append_left this]
      exact h1 j hje m hm
    · simp only [hje, if_false]
      have e : j * k.size + m = A.length + ((j - es.length) * k.size + m) := by
        rw [hl, Nat.sub_mul]
        have : es.length * k.size ≤ j * k.size := Nat.mul_le_mul_right _ (by omega)
        omega
      rw [e, List.getElem?_append_right (by omega), Nat.add_sub_cancel_left]
      refine g1 _ ?_ m hm
      rw [List.length_append] at hj
      omega
  · intro j hj
    by_cases hje : j < es.length
    · simp only [hje, if_true]
      rw [List.getElem_append_left hje]
      exact h2 j hje
    · simp only [hje, if_false]
      rw [List.getElem_append_right (by omega)]
      exact g2 _ _
theorem ERel.pad {k : K} {es : List DV} {A A' : List Value} (h : ERel w S k es A) : ERel w S k es (A ++ A') := by
  obtain ⟨h0, c, h1, h2⟩ := h
  refine ⟨by rw [List.length_append]; omega, c, ?_, h2⟩
  intro j hj m hm
  have := h1 j hj m hm
  rw [List.getElem?_append_left]
  · exact this
  · exact (List.getElem?_eq_some_iff.1 this.1).1
theorem ERel.ext {w' : World} {S' : Stab} {k : K} {es : List DV} {A : List Value} (h : ERel w S k es A) (e : Ext B w S w' S') : ERel w' S' k es A := by
  obtain ⟨h0, c, h1, h2⟩ := h
  exact ⟨h0, c, h1, fun j hj => (h2 j hj).ext e⟩
theorem zeroCells_size (z : Array Value) (n : Nat) : (Builtin.zeroCells z n).size = n * z.size := by simp [Builtin.zeroCells]
/-- append into new memory. -/
theorem run_grow {ts : Array TypeId} {t u e : TypeId} {k : K} (h0 : ts[0]? = some t) (h1 : ts[1]? = some u) (ht : P.underlying t = some (.slice e)) (hk : kq P e = some k) (hu : (∃ e', P.underlying u = some (.slice e')) ∨ P.underlying u = some .string)
    {zv : Value} (hz : (P.info? e).bind (·.zero) = some zv) {base : Option Addr} {sLen sCap n : Nat} {uy : Value} {olds news : Array Value}
    (hlen : (Builtin.lenOf uy).run P w = .ok n w) (hold : (Builtin.firstCells k.size sLen (.slice base sLen sCap)).run P w.drew = .ok olds w.drew) (hnew : (Builtin.firstCells k.size n uy).run P w.drew = .ok news w.drew)
    (hg : sCap < sLen + n) (hb : (sLen + n) * P.bytesOf e ≤ 140737488355328) (hb0 : P.bytesOf e ≠ 0) (ty : TypeId) :
    ∃ newCap, sLen + n ≤ newCap ∧ (Builtin.append_ ts ty #[.slice base sLen sCap, uy]).run P w = .ok (.slice (some ⟨w.heap.size, 0, none⟩) (sLen + n) newCap) (w.drew.alloc (.cells (olds ++ news ++ Builtin.zeroCells zv.cells (newCap - (sLen + n))) e)) := by
  obtain ⟨i, hi, hz'⟩ := Option.bind_eq_some_iff.1 hz
  have hbi : P.bytesOf e = i.bytes := by simp [Program.bytesOf, hi]
  have hki : i.size = k.size := by rw [← kq_size hk]; simp [Program.cellsOf, hi]
  rw [hbi] at hb hb0
  have hn : ¬ (sLen + n ≤ sCap) := by omega
  have h48 := growslice_fits hg hb
  have h48' : ¬ (281474976710656 < Builtin.nextslicecap (sLen + n) sCap * i.bytes) := by omega
  refine ⟨grownCap w (sLen + n) sCap e, ?_, ?_⟩
  · simp only [grownCap, Question.cut]; omega
  · rcases hu with ⟨e', hu⟩ | hu
    · simp [Builtin.append_, h0, h1, run_und ht, run_und hu, sizeOf, typeInfo, zeroValue, hi, hz', hki, hlen, hn, hb0, h48', Question.forced, hold, hnew, newRow, grownCap]
    · simp [Builtin.append_, h0, h1, run_und ht, run_und hu, sizeOf, typeInfo, zeroValue, hi, hz', hki, hlen, hn, hb0, h48', Question.forced, hold, hnew, newRow, grownCap]
/-- append in place. -/
theorem run_room {ts : Array TypeId} {t u e : TypeId} {k : K} (h0 : ts[0]? = some t) (h1 : ts[1]? = some u) (ht : P.underlying t = some (.slice e)) (hk : kq P e = some k) (hu : (∃ e', P.underlying u = some (.slice e')) ∨ P.underlying u = some .string)
    {base : Option Addr} {sLen sCap n : Nat} {uy : Value} {news : Array Value} {w' : World}
    (hlen : (Builtin.lenOf uy).run P w = .ok n w) (hnew : (Builtin.firstCells k.size n uy).run P w = .ok news w) (hst : (match base with | some a => storeCells (a.add (sLen * k.size)) news.toList | none => pure ()).run P w = .ok () w')
    (hg : sLen + n ≤ sCap) (ty : TypeId) :
    (Builtin.append_ ts ty #[.slice base sLen sCap, uy]).run P w = .ok (.slice base (sLen + n) sCap) w' := by
  have hki := run_sizeK hk
  rcases hu with ⟨e', hu⟩ | hu
  · cases base with
    | none =>
      simp at hst
      subst hst
      simp [Builtin.append_, h0, h1, run_und ht, run_und hu, hki, hlen, hg, hnew]
    | some a =>
      simp at hst
      simp [Builtin.append_, h0, h1, run_und ht, run_und hu, hki, hlen, hg, hnew, hst]
  · cases base with
    | none =>
      simp at hst
      subst hst
      simp [Builtin.append_, h0, h1, run_und ht, run_und hu, hki, hlen, hg, hnew]
    | some a =>
      simp at hst
      simp [Builtin.append_, h0, h1, run_und ht, run_und hu, hki, hlen, hg, hnew, hst]
theorem hok_kill (hH : HOK C B w S β H) (o : Nat) (hlt : o < H.length) : HOK C B w S (upd β o .dead) (H.put o none) ∧ (β o ≠ .pend → Later β (upd β o .dead)) := by
  have hl : ∀ p, upd β o .dead p = β p ∨ upd β o .dead p = .dead := fun p => by
    by_cases h : p = o
    · subst h; exact .inr (upd_same _ _ _)
    · exact .inl (upd_ne h)
  have hat : ∀ p blk base k, upd β o .dead p = .at blk base k → p ≠ o ∧ β p = .at blk base k := fun p blk base k h => by
    by_cases hp : p = o
    · subst hp; rw [upd_same] at h; cases h
    · rw [upd_ne hp] at h; exact ⟨hp, h⟩
  have hlat : Later β (upd β o .dead) := fun p => (hl p).elim .inl (fun h => .inr (.inl h))
  refine ⟨⟨?_, ?_, ?_, ?_, ?_⟩, fun _ => hlat⟩
  · intro p blk base k h
    obtain ⟨h1, h2⟩ := hat p blk base k h
    obtain ⟨a1, x, cells, e, a2, a3, a4, a5⟩ := hH.live p blk base k h2
    exact ⟨a1, x, cells, e, by rw [obj_put_ne (fun h => h1 h.symm)]; exact a2, a3, a4, a5.ext (Ext.refl B w S) hlat (fun _ h => h)⟩
  · intro p h
    by_cases hp : p = o
    · subst hp; exact obj_put_same hlt
    · rw [upd_ne hp] at h
      rw [obj_put_ne (fun h => hp h.symm)]; exact hH.dead p h
  · intro p h
    have hp : p ≠ o := fun hp => by subst hp; rw [upd_same] at h; cases h
    rw [upd_ne hp] at h
    rw [obj_put_ne (fun h => hp h.symm)]; exact hH.virt p h
  · intro p p' blk base k base' k' h1 h2
    exact hH.inj p p' blk base k base' k' (hat _ _ _ _ h1).2 (hat _ _ _ _ h2).2
  · intro p h
    rw [put_length] at h
    rw [upd_ne (by omega)]; exact hH.out p h
/-- An object with no memory. -/
theorem hok_virt (hH : HOK C B w S β H) {id : Nat} (hp : β id = .pend) (hlt : id < H.length) (k : K) (ro : Nat) : HOK C B w S (upd β id .virt) (H.put id (some (.sl k ro []))) ∧ Later β (upd β id .virt) := by
  have hlat := later_upd (x := BO.virt) hp
  have hat : ∀ p blk base k, upd β id .virt p = .at blk base k → p ≠ id ∧ β p = .at blk base k := fun p blk base k h => by
    by_cases hp : p = id
    · subst hp; rw [upd_same] at h; cases h
    · rw [upd_ne hp] at h; exact ⟨hp, h⟩
  refine ⟨⟨?_, ?_, ?_, ?_, ?_⟩, hlat⟩
  · intro p blk base k h
    obtain ⟨h1, h2⟩ := hat p blk base k h
    obtain ⟨a1, x, cells, e, a2, a3, a4, a5⟩ := hH.live p blk base k h2
    exact ⟨a1, x, cells, e, by rw [obj_put_ne (fun h => h1 h.symm)]; exact a2, a3, a4, a5.ext (Ext.refl B w S) hlat (fun _ h => h)⟩
  · intro p h
    have hp : p ≠ id := fun hp => by subst hp; rw [upd_same] at h; cases h
    rw [upd_ne hp] at h
    rw [obj_put_ne (fun h => hp h.symm)]; exact hH.dead p h
  · intro p h
    by_cases hp : p = id
    · subst hp; exact ⟨k, ro, obj_put_same hlt⟩
    · rw [upd_ne hp] at h
      rw [obj_put_ne (fun h => hp h.symm)]; exact hH.virt p h
  · intro p p' blk base k base' k' h1 h2
    exact hH.inj p p' blk base k base' k' (hat _ _ _ _ h1).2 (hat _ _ _ _ h2).2
  · intro p h
    rw [put_length] at h
    rw [upd_ne (by omega)]; exact hH.out p h
/-- An object goes over into another in the same block. -/
theorem hok_move (hH : HOK C B w S β H) {o id blk base base' : Nat} {k : K} (hb : β o = .at blk base k) (hp : β id = .pend) (hlt : id < H.length) (hne : id ≠ o) {cells cells' : Array Value} {e : TypeId} (hw : w.heap[blk]? = some (.cells cells e (0, 0))) (hsz : cells'.size = cells.size)
    (hS : ∀ j, S blk j → cells'[j]? = cells[j]?) {x : Obj} (hc : ∀ β', Later β β' → OCells C (w.setRow blk cells') S β' cells' blk base' x) :
    HOK C B (w.setRow blk cells') S (upd (upd β o .dead) id (.at blk base' x.shape)) ((H.put o none).put id (some x)) ∧ Later β (upd (upd β o .dead) id (.at blk base' x.shape)) := by
  have hB := (hH.live o blk base k hb).1
  have hext := write_ext (S := S) hB hw hsz hS
  have holt : o < H.length := by
    obtain ⟨-, x0, -, -, ho, -⟩ := hH.live o blk base k hb
    exact obj_lt ho
  have hl1 : Later β (upd β o .dead) := fun p => by
    by_cases h : p = o
    · subst h; exact .inr (.inl (upd_same _ _ _))
    · exact .inl (upd_ne h)
  have hlat : Later β (upd (upd β o .dead) id (.at blk base' x.shape)) := hl1.trans (later_upd (by rw [upd_ne hne]; exact hp))
  have hat : ∀ p blk1 base1 k1, upd (upd β o .dead) id (.at blk base' x.shape) p = .at blk1 base1 k1 → (p = id ∧ blk1 = blk ∧ base1 = base' ∧ k1 = x.shape) ∨ (p ≠ id ∧ p ≠ o ∧ β p = .at blk1 base1 k1) := by
    intro p blk1 base1 k1 h
    by_cases h1 : p = id
    · subst h1; rw [upd_same] at h; cases h; exact .inl ⟨rfl, rfl, rfl, rfl⟩
    · rw [upd_ne h1] at h
      by_cases h2 : p = o
      · subst h2; rw [upd_same] at h; cases h
      · rw [upd_ne h2] at h; exact .inr ⟨h1, h2, h⟩
  refine ⟨⟨?_, ?_, ?_, ?_, ?_⟩, hlat⟩
  · intro p blk1 base1 k1 h
    rcases hat p blk1 base1 k1 h with ⟨rfl, rfl, rfl, rfl⟩ | ⟨h1, h2, h3⟩
    · exact ⟨hB, x, cells', e, obj_put_same (by rw [put_length]; exact hlt), rfl, setRow_heap w _ cells cells' e (0, 0) hw, hc _ hlat⟩
    · have hnb : blk1 ≠ blk := fun hq => h2 (hH.inj p o blk1 base1 k1 base k h3 (hq ▸ hb))
      obtain ⟨a1, x0, c0, e0, a2, a3, a4, a5⟩ := hH.live p blk1 base1 k1 h3
      exact ⟨a1, x0, c0, e0, by rw [obj_put_ne (fun h => h1 h.symm), obj_put_ne (fun h => h2 h.symm)]; exact a2, a3, by rw [setRow_other w blk blk1 cells' hnb]; exact a4, a5.ext hext hlat (fun _ h => h)⟩
  · intro p h
    have h1 : p ≠ id := fun h1 => by subst h1; rw [upd_same] at h; cases h
    rw [upd_ne h1] at h
    rw [obj_put_ne (fun h => h1 h.symm)]
    by_cases h2 : p = o
    · subst h2; exact obj_put_same holt
    · rw [upd_ne h2] at h
      rw [obj_put_ne (fun h => h2 h.symm)]; exact hH.dead p h
  · intro p h
    have h1 : p ≠ id := fun h1 => by subst h1; rw [upd_same] at h; cases h
    rw [upd_ne h1] at h
    have h2 : p ≠ o := fun h2 => by subst h2; rw [upd_same] at h; cases h
    rw [upd_ne h2] at h
    rw [obj_put_ne (fun h => h1 h.symm), obj_put_ne (fun h => h2 h.symm)]; exact hH.virt p h
  · intro p p' blk1 base1 k1 base2 k2 h1 h2
    rcases hat _ _ _ _ h1 with ⟨rfl, rfl, rfl, rfl⟩ | ⟨a1, a2, a3⟩
    · rcases hat _ _ _ _ h2 with ⟨rfl, -, -, -⟩ | ⟨b1, b2, b3⟩
      · rfl
      · exact absurd (hH.inj p' o _ _ _ _ _ b3 hb) b2
    · rcases hat _ _ _ _ h2 with ⟨rfl, rfl, rfl, rfl⟩ | ⟨b1, b2, b3⟩
      · exact absurd (hH.inj p o _ _ _ _ _ a3 hb) a2
      · exact hH.inj p p' blk1 base1 k1 base2 k2 a3 b3
  · intro p h
    rw [put_length, put_length] at h
    have h1 : p ≠ id := by omega
    have h2 : p ≠ o := by omega
    rw [upd_ne h1, upd_ne h2]; exact hH.out p h
/-- What an operation that changes the heap leaves. -/
def Leaves (C : Cx) (B : Nat) (w : World) (S : Stab) (β : Pl) (H : Heap) (id : Nat) (v : PV) (H' : Heap) (u : Value) (w' : World) : Prop :=
  ∃ S' β', Ext B w S w' S' ∧ Swf w' S' ∧ HOK C B w' S' β' H' ∧ Later β β' ∧ RelV C w' S' β' v u ∧ H'.length = H.length ∧ Kp H.length id β β'
/-- append: the case of new memory. -/
theorem grow_leaves (hH : HOK C B w S β H) (hS : Swf w S) (hB : B ≤ w.heap.size) {id : Nat} (hp : β id = .pend) (hlt : id < H.length) {k : K} {es ys : List DV} {A A' : List Value} {e : TypeId} {zv : Value} (hzs : zv.cells.size = k.size)
    (h1 : ERel w S k es A) (hl1 : A.length = es.length * k.size) (h2 : ERel w S k ys A') (hl2 : A'.length = ys.length * k.size) {newCap : Nat} (hc : es.length + ys.length ≤ newCap) (ro : Nat) :
    Leaves C B w S β H id (.r id k 0 (es.length + ys.length) false) (H.put id (some (.sl k ro (es ++ ys)))) (.slice (some ⟨w.heap.size, 0, none⟩) (es.length + ys.length) newCap)
      (w.drew.alloc (.cells (A.toArray ++ A'.toArray ++ Builtin.zeroCells zv.cells (newCap - (es.length + ys.length))) e)) := by
  have hr := ((h1.append hl1 h2).ext (drew_ext (B := B))).pad (A' := (Builtin.zeroCells zv.cells (newCap - (es.length + ys.length))).toList)
  have hS' : Swf w.drew S := hS.ext (drew_ext (B := B))
  obtain ⟨a1, a2, a3, a4⟩ := new_row_at hH.drew hS' hB hp hlt hr e ro (len := es.length + ys.length) (cap := newCap) (tt := false) (by
    have := zeroCells_size zv.cells (newCap - (es.length + ys.length))
    rw [hzs] at this
    simp only [List.length_append, Array.length_toList, this, hl1, hl2]
    rw [← Nat.add_mul, ← Nat.add_mul]
    exact Nat.mul_le_mul_right _ (by omega)) hc (fun h => by cases h)
  have e1 : (A ++ A' ++ (Builtin.zeroCells zv.cells (newCap - (es.length + ys.length))).toList).toArray = A.toArray ++ A'.toArray ++ Builtin.zeroCells zv.cells (newCap - (es.length + ys.length)) := by
    apply Array.ext'; simp
  rw [e1] at a1 a2 a4
  exact ⟨S, _, (drew_ext (B := B)).trans a1, hS'.ext a1, a2, a3, a4, put_length _ _ _, kp_upd _ _ _ _⟩
theorem Reads.drew {k : K} {ys : List DV} {u : Value} {A : List Value} (h : Reads P w S k ys u A) : (Builtin.firstCells k.size ys.length u).run P w.drew = .ok A.toArray w.drew := by
  have := h.cells ys.length (Nat.le_refl _) w.drew rfl
  rw [← h.size, List.take_length] at this
  exact this
theorem Reads.here {k : K} {ys : List DV} {u : Value} {A : List Value} (h : Reads P w S k ys u A) : (Builtin.firstCells k.size ys.length u).run P w = .ok A.toArray w := by
  have := h.cells ys.length (Nat.le_refl _) w rfl
  rw [← h.size, List.take_length] at this
  exact this
theorem appA_sound (hH : HOK C B w S β H) (hS : Swf w S) (hB : B ≤ w.heap.size) {id : Nat} (hp : β id = .pend) (hlt : id < H.length)
    {ts : Array TypeId} {t u e : TypeId} {k : K} (h0 : ts[0]? = some t) (h1 : ts[1]? = some u) (ht : P.underlying t = some (.slice e)) (hk : kq P e = some k) (hu : (∃ e', P.underlying u = some (.slice e')) ∨ P.underlying u = some .string)
    {z : DV} (hz : zq P e = some z) (hb0 : P.bytesOf e ≠ 0) (ty : TypeId) {x y v : PV} {ux uy : Value} (hx : RelV C w S β x ux) (hy : RelV C w S β y uy) {H' : Heap} (h : appA H id k (P.bytesOf e) x y = some (v, H')) :
    ∃ ur w', (Builtin.append_ ts ty #[ux, uy]).run P w = .ok ur w' ∧ Leaves C B w S β H id v H' ur w' := by
  obtain ⟨kz, zv, hkz, hzv, hfz, hrz⟩ := zq_rel hz
  have hzs : zv.cells.size = k.size := by
    have := (zero_crel (C := C) (w := w) (S := S) (β := β) hfz hrz).2
    rw [hk] at hkz; cases hkz
    exact this
  have stays : RelV C w S β x ux → Leaves C B w S β H id x H ux w := fun hx => ⟨S, β, Ext.refl _ _ _, hS, hH, Later.refl _, hx, rfl, Kp.refl _ _ _⟩
  unfold appA at h
  split at h
  · cases h
  · rename_i ys hys
    obtain ⟨Ay, hry⟩ := elemsA_sound (P := P) hH hy hys
    split at h
    · rename_i k' es tt
      split at h
      · rename_i htt
        split at h
        · rename_i hbound
          have hxx := hx
          cases hxx with
          | d _ _ hx' =>
          cases hx' with
          | l _ _ _ a cap blk off c c1 c2 c3 c4 c5 =>
          have hcap := c2 htt
          subst hcap
          -- growing out of what x holds
          have grow : ∀ Ax, Reads P w S k es (.slice a es.length es.length) Ax → 0 < ys.length → ∃ ur w', (Builtin.append_ ts ty #[.slice a es.length es.length, uy]).run P w = .ok ur w' ∧
              Leaves C B w S β H id (.r id k 0 (es.length + ys.length) false) (H.put id (some (.sl k 0 (es ++ ys)))) ur w' := by
            intro Ax hrx hpos
            obtain ⟨nc, g1, g2⟩ := run_grow h0 h1 ht hk hu hzv hry.len hrx.drew hry.drew (by omega) (by simpa using hbound) hb0 ty
            exact ⟨_, _, g2, grow_leaves hH hS hB hp hlt hzs hrx.rel hrx.size hry.rel hry.size g1 0⟩
          split at h
          · cases h
            have hrx := read_none (P := P) (w := w) (S := S) (k := k) a 0 true
            cases hyl : ys with
            | nil =>
              subst hyl
              have hr := run_room (w' := w) h0 h1 ht hk hu (base := a) (sLen := 0) (sCap := 0) hry.len hry.here (by
                have hA : Ay = [] := by have := hry.size; simpa using this
                subst hA
                cases a <;> simp [storeCells]) (by simp) ty
              simp only [List.length_nil, Nat.add_zero] at hr ⊢
              obtain ⟨v1, v2⟩ := hok_virt hH hp hlt k 0
              refine ⟨_, _, hr, S, _, Ext.refl _ _ _, hS, v1, v2, .r _ _ _ _ _ _ rfl ?_, put_length _ _ _, kp_upd _ _ _ _⟩
              unfold RelRf
              rw [upd_same]
              exact ⟨rfl, rfl, a, rfl⟩
            | cons y0 yr =>
              rw [← hyl]
              have := grow [] hrx (by rw [hyl]; simp)
              simpa using this
          · rename_i e0 er
            split at h
            · rename_i hke
              have := K.eq_spec hke
              subst this
              split at h
              · cases h
                have hr := run_room (w' := w) h0 h1 ht hk hu (base := a) (sLen := (e0 :: er).length) (sCap := (e0 :: er).length) hry.len hry.here (by
                  have hA : Ay = [] := by have := hry.size; simpa using this
                  subst hA
                  cases a <;> simp [storeCells]) (by simp) ty
                exact ⟨_, _, by simpa using hr, stays hx⟩
              · cases h
                obtain ⟨Ax, hrx⟩ := elemsA_sound (P := P) hH (k := k) (y := .d (.l k (e0 :: er) tt)) (ys := e0 :: er) hx (by simp [elemsA, show K.eq k k = true from hke])
                exact grow Ax hrx (by simp)
            · cases h
        · cases h
      · cases h
    · rename_i o k' off len tt
      split at h
      · rename_i k'' ro es ho
        split at h
        · rename_i hcnd
          simp only [Bool.and_eq_true, decide_eq_true_eq] at hcnd
          obtain ⟨⟨⟨hk1, hk2⟩, hle⟩, hbound⟩ := hcnd
          have := K.eq_spec hk1
          subst this
          have := K.eq_spec hk2
          subst this
          have hpl : ((es.drop off).take len).length = len := by simp; omega
          obtain ⟨Ax, hrx⟩ := elemsA_sound (P := P) hH (k := k) (y := .r o k off len tt) (ys := (es.drop off).take len) hx (by simp [elemsA, ho, hle, show K.eq k k = true from hk1])
          have holt := obj_lt ho
          cases hx with
          | r _ _ _ _ _ _ hfx hxr =>
          split at h
          · -- tight
            rename_i htt
            split at h
            · cases h
              have hsl : ∃ a cap, ux = .slice a len cap ∧ len ≤ cap := by
                unfold RelRf at hxr
                split at hxr
                · exact hxr.elim
                · rename_i hb; rw [hH.dead o hb] at ho; cases ho
                · obtain ⟨-, rfl, a, rfl⟩ := hxr; exact ⟨_, _, rfl, Nat.le_refl _⟩
                · obtain ⟨-, cap, a, rfl, -, h3, -⟩ := hxr; exact ⟨_, _, rfl, h3⟩
              obtain ⟨a, cap, rfl, hlc⟩ := hsl
              have hr := run_room (w' := w) h0 h1 ht hk hu (base := a) (sLen := len) (sCap := cap) hry.len hry.here (by
                have hA : Ay = [] := by have := hry.size; simpa using this
                subst hA
                cases a <;> simp [storeCells]) (by simpa using hlc) ty
              exact ⟨_, _, by simpa using hr, stays (.r _ _ _ _ _ _ hfx hxr)⟩
            · cases h
              have hsl : ∃ a, ux = .slice a len len := by
                unfold RelRf at hxr
                split at hxr
                · exact hxr.elim
                · rename_i hb; rw [hH.dead o hb] at ho; cases ho
                · obtain ⟨-, rfl, a, rfl⟩ := hxr; exact ⟨_, rfl⟩
                · obtain ⟨-, cap, a, rfl, -, h3, h4, -⟩ := hxr; have := h4 htt; subst this; exact ⟨_, rfl⟩
              obtain ⟨a, rfl⟩ := hsl
              have hd := hrx.drew
              rw [hpl] at hd
              obtain ⟨nc, g1, g2⟩ := run_grow h0 h1 ht hk hu hzv hry.len hd hry.drew (by simp) (by simpa using hbound) hb0 ty
              have := grow_leaves (e := e) hH hS hB hp hlt hzs hrx.rel hrx.size hry.rel hry.size (newCap := nc) (by rw [hpl]; exact g1) 0
              rw [hpl] at this
              exact ⟨_, _, g2, this⟩
          · split at h
            · rename_i htt hro
              cases h
              have hne : id ≠ o := fun hq => by
                subst hq
                unfold RelRf at hxr
                rw [hp] at hxr
                exact hxr
              -- behind the end of o
              obtain ⟨hH1, hl1⟩ := hok_kill hH o holt
              have hnp : β o ≠ .pend := fun hq => by unfold RelRf at hxr; rw [hq] at hxr; exact hxr
              have hl1 := hl1 hnp
              have hp1 : upd β o .dead id = .pend := by rw [upd_ne hne]; exact hp
              have hlt1 : id < (H.put o none).length := by rw [put_length]; exact hlt
              have fin : ∀ {v : PV} {H2 : Heap} {ur : Value} {w' : World}, Leaves C B w S (upd β o .dead) (H.put o none) id v H2 ur w' → Leaves C B w S β H id v H2 ur w' := by
                rintro v H2 ur w' ⟨S', β', a1, a2, a3, a4, a5, a6, a7⟩
                rw [put_length] at a7
                exact ⟨S', β', a1, a2, a3, hl1.trans a4, a5, by rw [a6, put_length], (kp_kill _ _ hnp _).trans a7⟩
              have grow : ∀ (a : Option Addr) (cap : Nat), ux = .slice a len cap → cap < len + ys.length → ∃ ur w', (Builtin.append_ ts ty #[ux, uy]).run P w = .ok ur w' ∧
                  Leaves C B w S β H id (.r id k 0 (len + ys.length) false) ((H.put o none).put id (some (.sl k (ro - off) ((es.drop off).take len ++ ys)))) ur w' := by
                rintro a cap rfl hg
                have hd := hrx.drew
                rw [hpl] at hd
                obtain ⟨nc, g1, g2⟩ := run_grow h0 h1 ht hk hu hzv hry.len hd hry.drew hg (by simpa using hbound) hb0 ty
                have := grow_leaves (e := e) hH1 hS hB hp1 hlt1 hzs hrx.rel hrx.size hry.rel hry.size (newCap := nc) (by rw [hpl]; exact g1) (ro - off)
                rw [hpl] at this
                exact ⟨_, _, g2, fin this⟩
              have hxr' := hxr
              unfold RelRf at hxr'
              split at hxr'
              · exact hxr'.elim
              · rename_i hb; rw [hH.dead o hb] at ho; cases ho
              · rename_i hb
                obtain ⟨rfl, rfl, a, rfl⟩ := hxr'
                cases hyl : ys with
                | nil =>
                  subst hyl
                  have hr := run_room (w' := w) h0 h1 ht hk hu (base := a) (sLen := 0) (sCap := 0) hry.len hry.here (by
                    have hA : Ay = [] := by have := hry.size; simpa using this
                    subst hA
                    cases a <;> simp [storeCells]) (by simp) ty
                  obtain ⟨k0, ro0, hv⟩ := hH.virt o hb
                  rw [ho] at hv
                  cases hv
                  obtain ⟨v1, v2⟩ := hok_virt hH1 hp1 hlt1 k (ro - 0)
                  refine ⟨_, _, hr, fin ⟨S, _, Ext.refl _ _ _, hS, by simpa using v1, v2, .r _ _ _ _ _ _ rfl ?_, put_length _ _ _, kp_upd _ _ _ _⟩⟩
                  unfold RelRf
                  rw [upd_same]
                  exact ⟨rfl, rfl, a, rfl⟩
                | cons y0 yr =>
                  rw [← hyl]
                  exact grow a 0 rfl (by rw [hyl]; simp)
              · rename_i blk base k3 hb
                obtain ⟨e1, cap, a, rfl, e2, e3, -, e', n, e5, e6⟩ := hxr'
                subst e1
                rcases Nat.lt_or_ge cap (len + ys.length) with hg | hg
                · exact grow (some a) cap rfl hg
                · obtain ⟨hBb, x', cells, e0, ho', hs, hw, hc⟩ := hH.live o blk base k3 hb
                  rw [ho] at ho'
                  cases ho'
                  obtain ⟨hbs, c, hf, hr, hn⟩ := hc
                  have hcs : n = cells.size := by
                    unfold World.shape? at e5
                    rw [hw] at e5
                    cases e5; rfl
                  subst hcs
                  have hAl : Ay.length = ys.length * k3.size := hry.size
                  have hT : base + off * k3.size + len * k3.size + Ay.length ≤ cells.size := by
                    rw [hAl]
                    have h3 : (off + len + ys.length) * k3.size ≤ (off + cap) * k3.size := Nat.mul_le_mul_right _ (by omega)
                    rw [Nat.add_mul, Nat.add_mul] at h3
                    omega
                  have hsz : (putAt cells.toList (base + off * k3.size + len * k3.size) Ay).toArray.size = cells.size := by
                    have := putAt_length (l := cells.toList) (c := base + off * k3.size + len * k3.size) (xs := Ay) (by simpa using hT)
                    simpa using this
                  have hget : ∀ j, (putAt cells.toList (base + off * k3.size + len * k3.size) Ay).toArray[j]? = if base + off * k3.size + len * k3.size ≤ j ∧ j < base + off * k3.size + len * k3.size + Ay.length then Ay[j - (base + off * k3.size + len * k3.size)]? else cells[j]? := by
                    intro j
                    have := putAt_get (l := cells.toList) (c := base + off * k3.size + len * k3.size) (xs := Ay) (by simpa using hT) j
                    rw [List.getElem?_toArray, this]
                    simp
                  have hro3 : ro * k3.size ≤ (off + len) * k3.size := Nat.mul_le_mul_right _ hro
                  rw [Nat.add_mul] at hro3
                  have hkeep : ∀ j, S blk j → (putAt cells.toList (base + off * k3.size + len * k3.size) Ay).toArray[j]? = cells[j]? := by
                    intro j hj
                    rw [hget, if_neg]
                    intro hc
                    exact hn j (by omega) hj
                  have hfl : ∀ v ∈ Ay, v.oneCell' = true := by
                    intro v hv
                    obtain ⟨x, hx, rfl⟩ := List.mem_iff_getElem.1 hv
                    obtain ⟨-, cy, hcy, -⟩ := hry.rel
                    rw [hAl] at hx
                    have hk0 : 0 < k3.size := by
                      rcases Nat.eq_zero_or_pos k3.size with h0 | h0
                      · rw [h0] at hx; omega
                      · exact h0
                    have := hcy (x / k3.size) ((Nat.div_lt_iff_lt_mul hk0).2 hx) (x % k3.size) (Nat.mod_lt _ hk0)
                    have e1 : x / k3.size * k3.size + x % k3.size = x := by rw [Nat.mul_comm]; exact Nat.div_add_mod x k3.size
                    rw [e1, List.getElem?_eq_getElem (by omega), Option.some.injEq] at this
                    rw [this.1]
                    exact this.2
                  have hst : (storeCells (a.add (len * k3.size)) Ay).run P w = .ok () (w.setRow blk (putAt cells.toList (base + off * k3.size + len * k3.size) Ay).toArray) := by
                    rcases Nat.eq_zero_or_pos ys.length with h0 | h0
                    · have hA : Ay = [] := by
                        have : Ay.length = 0 := by rw [hAl, h0, Nat.zero_mul]
                        exact List.eq_nil_of_length_eq_zero this
                      subst hA
                      have e1 : (putAt cells.toList (base + off * k3.size + len * k3.size) ([] : List Value)).toArray = cells := by
                        apply Array.ext'; simp [putAt]
                      rw [e1, setRow_self w blk cells e0 (0, 0) hw]
                      simp [storeCells]
                    · rw [e2 (by omega), add_at]
                      have := run_storeCells_at P blk (base + off * k3.size + len * k3.size) e0 Ay 0 cells w hw (by simpa using hT) hfl
                      simpa [putAt] using this
                  have hrun := run_room (w' := w.setRow blk (putAt cells.toList (base + off * k3.size + len * k3.size) Ay).toArray) h0 h1 ht hk hu (base := some a) (sLen := len) (sCap := cap) hry.len hry.here (by simpa using hst) hg ty
                  have hext := write_ext (S := S) (cells' := (putAt cells.toList (base + off * k3.size + len * k3.size) Ay).toArray) hBb hw hsz hkeep
                  have hmv := hok_move (id := id) (base' := base + off * k3.size) hH hb hp hlt hne hw hsz hkeep (x := .sl k3 (ro - off) ((es.drop off).take len ++ ys)) (by
                    intro β' hβ'
                    obtain ⟨-, cy, hcy, hry'⟩ := hry.rel
                    refine ⟨?_, (fun j m => if j < len then c (off + j) m else cy (j - len) m), ?_, ?_, ?_⟩
                    · rw [hsz, List.length_append, hpl, Nat.add_mul]
                      omega
                    · intro j hj m hm
                      rw [List.length_append, hpl] at hj
                      rw [hget]
                      by_cases hjl : j < len
                      · simp only [hjl, if_true]
                        have h3 : (j + 1) * k3.size ≤ len * k3.size := Nat.mul_le_mul_right _ hjl
                        rw [Nat.add_mul, Nat.one_mul] at h3
                        rw [if_neg (by omega)]
                        have := hf (off + j) (by omega) m hm
                        rw [Nat.add_mul] at this
                        have e1 : base + off * k3.size + j * k3.size + m = base + (off * k3.size + j * k3.size) + m := by omega
                        rw [e1]
                        exact this
                      · simp only [hjl, if_false]
                        have e1 : j * k3.size = len * k3.size + (j - len) * k3.size := by
                          rw [← Nat.add_mul]; congr 1; omega
                        have h3 : (j - len + 1) * k3.size ≤ ys.length * k3.size := Nat.mul_le_mul_right _ (by omega)
                        rw [Nat.add_mul, Nat.one_mul] at h3
                        rw [if_pos (by omega)]
                        have := hcy (j - len) (by omega) m hm
                        have e3 : base + off * k3.size + j * k3.size + m - (base + off * k3.size + len * k3.size) = (j - len) * k3.size + m := by omega
                        rw [e3]
                        exact this
                    · intro j hj
                      rw [List.length_append, hpl] at hj
                      by_cases hjl : j < len
                      · simp only [hjl, if_true]
                        rw [List.getElem_append_left (by rw [hpl]; exact hjl)]
                        have := (hr (off + j) (by omega)).ext hext
                        simpa [List.getElem_drop, List.getElem_take] using this
                      · simp only [hjl, if_false]
                        rw [List.getElem_append_right (by rw [hpl]; omega)]
                        simp only [hpl]
                        exact (hry' (j - len) (by omega)).ext hext
                    · intro j hj
                      refine hn j ?_
                      have h3 : ro * k3.size ≤ off * k3.size + (ro - off) * k3.size := by
                        rw [← Nat.add_mul]; exact Nat.mul_le_mul_right _ (by omega)
                      omega)
                  refine ⟨_, _, hrun, S, _, hext, hS.ext hext, hmv.1, hmv.2, .r _ _ _ _ _ _ rfl ?_, by rw [put_length, put_length], (kp_kill _ _ hnp _).trans (kp_upd _ _ _ _)⟩
                  unfold RelRf
                  rw [upd_same]
                  refine ⟨rfl, cap, a, rfl, fun h => by rw [e2 h]; simp, hg, (fun h => by cases h), e', cells.size, hext.shape _ _ _ e5, ?_⟩
                  rw [Nat.add_mul] at e6
                  simp only [Nat.zero_add]
                  omega
            · cases h
        · cases h
      · cases h
    · cases h
theorem mksl_sound (hH : HOK C B w S β H) (hS : Swf w S) (hB : B ≤ w.heap.size) {id : Nat} (hp : β id = .pend) (hlt : id < H.length) {t e : TypeId} {k : K} (ht : P.underlying t = some (.slice e)) (hk : kq P e = some k)
    {z : DV} (hz : zq P e = some z) (hb0 : P.bytesOf e ≠ 0) {x y : PV} {ux uy : Value} (hx : RelV C w S β x ux) (hy : RelV C w S β y uy) {n c : Int} (hn : asI x = some n) (hc : asI y = some c) (hcnd : 0 ≤ n ∧ n ≤ c ∧ c * P.bytesOf e ≤ 2 ^ 47) :
    ∃ ur w', (Instr.makeSlice t ux uy).run P w = .ok ur w' ∧ Leaves C B w S β H id (.r id k 0 n.toNat false) (H.put id (some (.sl k 0 (List.replicate n.toNat z)))) ur w' := by
  obtain ⟨kz, zv, hkz, hzv, hfz, hrz⟩ := zq_rel hz
  rw [hk] at hkz; cases hkz
  obtain ⟨i, hi, hz'⟩ := Option.bind_eq_some_iff.1 hzv
  have hbi : P.bytesOf e = i.bytes := by simp [Program.bytesOf, hi]
  obtain ⟨h1, h2, h3⟩ := hcnd
  rw [hbi] at h3 hb0
  obtain ⟨k1, rfl⟩ := asI_rel hx hn
  obtain ⟨k2, rfl⟩ := asI_rel hy hc
  have hb1 : (1 : Int) ≤ i.bytes := by omega
  have hc47 : c ≤ 2 ^ 47 := by
    have : c * 1 ≤ c * i.bytes := Int.mul_le_mul_of_nonneg_left hb1 (by omega)
    omega
  have hwrap : ∀ m : Int, 0 ≤ m → m ≤ 2 ^ 47 → IntKind.i64.wrap m = m := by
    intro m hm1 hm2
    have e1 : m % (2 ^ 64 : Int) = m := Int.emod_eq_of_lt hm1 (by omega)
    simp only [IntKind.wrap, IntKind.bits, e1]
    rw [if_neg]
    simp
    intro _
    omega
  have hzc := (zero_crel (C := C) (w := w) (S := S) (β := β) hfz hrz).2
  have hrow := zrow (w := w) (S := S) (n := c.toNat) hfz hrz (if c.toNat * k.size = 0 then #[] else zv.cells) (fun h => by rw [if_neg h])
  obtain ⟨q0, cf, q1, q2⟩ := hrow
  have hrow' : ERel w S k (List.replicate n.toNat z) ((Array.range (c.toNat * k.size)).map ((if c.toNat * k.size = 0 then #[] else zv.cells)[· % (if c.toNat * k.size = 0 then #[] else zv.cells).size]!)).toList := by
    refine ⟨?_, cf, ?_, ?_⟩
    · simp only [List.length_replicate, Array.toList_map, Array.toList_range, List.length_map, List.length_range]
      exact Nat.mul_le_mul_right _ (by omega)
    · intro j hj m hm
      rw [List.length_replicate] at hj
      exact q1 j (by rw [List.length_replicate]; omega) m hm
    · intro j hj
      rw [List.length_replicate] at hj
      have := q2 j (by rw [List.length_replicate]; omega)
      rw [List.getElem_replicate] at this ⊢
      exact this
  obtain ⟨a1, a2, a3, a4⟩ := new_row_at hH hS hB hp hlt hrow' e 0 (len := n.toNat) (cap := c.toNat) (tt := false) (by simp) (by omega) (fun h => by cases h)
  refine ⟨_, _, ?_, S, _, a1, hS.ext a1, a2, a3, a4, put_length _ _ _, kp_upd _ _ _ _⟩
  have hbc : ¬ (i.bytes * c > (2 : Int) ^ 48) := by rw [Int.mul_comm]; omega
  have hki : i.size = k.size := by rw [← kq_size hk]; simp [Program.cellsOf, hi]
  have w1 := hwrap n h1 (by omega)
  have w2 := hwrap c (by omega) hc47
  by_cases h0 : c.toNat * k.size = 0
  · simp [Instr.makeSlice, run_und ht, asInt, asIntOf, typeInfo, hi, w1, w2, sizeOf, hki, h0, newRow]
    rw [if_neg (by omega)]
    congr 3
    apply Array.ext'
    simp
  · simp [Instr.makeSlice, run_und ht, asInt, asIntOf, typeInfo, hi, w1, w2, sizeOf, hki, h0, newRow, zeroValue, hz']
    rw [if_neg (by omega)]
    congr 3
    apply Array.ext'
    simp
end
end Go.Sim
