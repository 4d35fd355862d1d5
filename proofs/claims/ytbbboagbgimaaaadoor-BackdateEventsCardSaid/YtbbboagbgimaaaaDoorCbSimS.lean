/- Storing and making. -/
import Derived.Test.YtbbboagbgimaaaaDoorCbSimQ
open Go.RowKit
namespace Go.Sim
section
variable {P : Program} {N : Names} {C : Cx} {w : World} {S : Stab} {β : Pl} {B : Nat} {H : Heap}
theorem OCells.ext {w' : World} {S' : Stab} {β' : Pl} (e : Ext B w S w' S') (hb : Later β β') {cells : Array Value} {blk base : Nat} (hn : ∀ j, S' blk j → S blk j) {x : Obj} (h : OCells C w S β cells blk base x) : OCells C w' S' β' cells blk base x := by
  cases x with
  | box k v =>
    obtain ⟨h0, f, h1, h2, h3⟩ := h
    exact ⟨h0, f, h1, h2.ext e hb, fun j hj => h3 j (hn j hj)⟩
  | sl k ro es =>
    obtain ⟨h0, c, h1, h2, h3⟩ := h
    exact ⟨h0, c, h1, fun j hj => (h2 j hj).ext e, fun j hj hs => h3 j hj (hn j hs)⟩
theorem Swf.ext {w' : World} (hS : Swf w S) (e : Ext B w S w' S) : Swf w' S := fun b j h => by
  obtain ⟨v, hv⟩ := hS b j h
  exact ⟨v, (e.cell b j h).trans hv⟩
theorem write_ext {blk : Nat} {cells cells' : Array Value} {e : TypeId} (hB : B ≤ blk) (hw : w.heap[blk]? = some (.cells cells e (0, 0))) (hsz : cells'.size = cells.size)
    (hS : ∀ j, S blk j → cells'[j]? = cells[j]?) : Ext B w S (w.setRow blk cells') S := by
  have hw' := setRow_heap w blk cells cells' e (0, 0) hw
  refine ⟨⟨rfl, rfl, rfl, by simp, fun k hk => setRow_other w blk k cells' (by omega)⟩, fun _ _ h => h, ?_, fun _ _ h => .inl h, ?_⟩
  · intro b j hs
    by_cases hb : b = blk
    · subst hb
      simp only [World.cell?, hw, hw']
      simpa using hS j hs
    · simp only [World.cell?, setRow_other w blk b cells' hb]
  · intro b e' n h
    by_cases hb : b = blk
    · subst hb
      simp only [World.shape?, hw, hw', hsz] at h ⊢
      exact h
    · simp only [World.shape?, setRow_other w blk b cells' hb] at h ⊢
      exact h
theorem write_hok (hH : HOK C B w S β H) {o blk base : Nat} {k : K} (hb : β o = .at blk base k) {cells cells' : Array Value} {e : TypeId} (hw : w.heap[blk]? = some (.cells cells e (0, 0))) (hsz : cells'.size = cells.size)
    (hS : ∀ j, S blk j → cells'[j]? = cells[j]?) {x : Obj} (hx : x.shape = k) (hc : OCells C (w.setRow blk cells') S β cells' blk base x) : HOK C B (w.setRow blk cells') S β (H.put o (some x)) := by
  have hB := (hH.live o blk base k hb).1
  have hext := write_ext (S := S) hB hw hsz hS
  have hlt : o < H.length := by
    obtain ⟨-, x0, -, -, ho, -⟩ := hH.live o blk base k hb
    exact obj_lt ho
  refine ⟨?_, ?_, ?_, hH.inj, ?_⟩
  · intro o' blk' base' k' hb'
    by_cases ho : o = o'
    · subst ho
      rw [hb] at hb'; cases hb'
      exact ⟨hB, x, cells', e, obj_put_same hlt, hx, setRow_heap w blk cells cells' e (0, 0) hw, hc⟩
    · have hne : blk' ≠ blk := fun h => ho (hH.inj o o' blk base k base' k' hb (h ▸ hb'))
      obtain ⟨h1, x0, c0, e0, h2, h3, h4, h5⟩ := hH.live o' blk' base' k' hb'
      exact ⟨h1, x0, c0, e0, by rw [obj_put_ne ho]; exact h2, h3, by rw [setRow_other w blk blk' cells' hne]; exact h4, h5.ext hext (Later.refl _) (fun _ h => h)⟩
  · intro o' ho'
    have : o ≠ o' := fun h => by subst h; rw [hb] at ho'; cases ho'
    rw [obj_put_ne this]; exact hH.dead o' ho'
  · intro o' ho'
    have : o ≠ o' := fun h => by subst h; rw [hb] at ho'; cases ho'
    rw [obj_put_ne this]; exact hH.virt o' ho'
  · intro o' ho'
    rw [put_length] at ho'
    exact hH.out o' ho'
/-- The places with one more object. -/
def upd (β : Pl) (o : Nat) (x : BO) : Pl := fun p => if p = o then x else β p
theorem upd_same (β : Pl) (o : Nat) (x : BO) : upd β o x o = x := by simp [upd]
theorem upd_ne {β : Pl} {o p : Nat} {x : BO} (h : p ≠ o) : upd β o x p = β p := by simp [upd, h]
theorem later_upd {β : Pl} {o : Nat} {x : BO} (h : β o = .pend) : Later β (upd β o x) := fun p => by
  by_cases hp : p = o
  · subst hp; exact .inr (.inr h)
  · exact .inl (upd_ne hp)
theorem Swf.lt (hS : Swf w S) {b j : Nat} (h : S b j) : b < w.heap.size := by
  obtain ⟨v, hv⟩ := hS b j h
  exact World.block_lt_of_cell? w _ hv
theorem alloc_ext (hS : Swf w S) (hB : B ≤ w.heap.size) (o : Go.Obj) : Ext B w S (w.alloc o) S := by
  refine ⟨(Below.refl _ _).alloc hB o, fun _ _ h => h, ?_, fun _ _ h => .inl h, ?_⟩
  · intro b j h
    have hlt := hS.lt h
    simp only [World.cell?, Below.heap_alloc w o b hlt]
  · intro b e n h
    have hlt : b < w.heap.size := by
      unfold World.shape? at h
      split at h
      · rename_i hx; exact (Array.getElem?_eq_some_iff.1 hx).1
      · cases h
    unfold World.shape? at *
    rw [Below.heap_alloc w o b hlt]
    exact h
theorem drew_ext : Ext B w S w.drew S :=
  ⟨(Below.refl _ _).drew, fun _ _ h => h, fun _ _ _ => rfl, fun _ _ h => .inl h, fun _ _ _ h => h⟩
/-- The heap's objects behind a step that leaves their blocks alone. -/
theorem HOK.ext (hH : HOK C B w S β H) {w' : World} {S' : Stab} (e : Ext B w S w' S') (hb : ∀ o blk base k, β o = .at blk base k → w'.heap[blk]? = w.heap[blk]?)
    (hn : ∀ o blk base k, β o = .at blk base k → ∀ j, S' blk j → S blk j) : HOK C B w' S' β H := by
  refine ⟨?_, hH.dead, hH.virt, hH.inj, hH.out⟩
  intro o blk base k ho
  obtain ⟨h1, x, cells, t, h2, h3, h4, h5⟩ := hH.live o blk base k ho
  exact ⟨h1, x, cells, t, h2, h3, by rw [hb o blk base k ho]; exact h4, h5.ext e (Later.refl _) (hn o blk base k ho)⟩
theorem HOK.lt (hH : HOK C B w S β H) {o blk base : Nat} {k : K} (h : β o = .at blk base k) : blk < w.heap.size := by
  obtain ⟨-, x, cells, t, -, -, h4, -⟩ := hH.live o blk base k h
  exact (Array.getElem?_eq_some_iff.1 h4).1
theorem HOK.alloc (hH : HOK C B w S β H) (hS : Swf w S) (hB : B ≤ w.heap.size) (o : Go.Obj) : HOK C B (w.alloc o) S β H :=
  hH.ext (alloc_ext hS hB o) (fun _ blk _ _ h => Below.heap_alloc w o blk (hH.lt h)) (fun _ _ _ _ _ _ h => h)
theorem HOK.drew (hH : HOK C B w S β H) : HOK C B w.drew S β H :=
  hH.ext drew_ext (fun _ _ _ _ _ => rfl) (fun _ _ _ _ _ _ h => h)
/-- What is to come stays to come, but for id. -/
def Kp (n id : Nat) (β β' : Pl) : Prop := ∀ o, o < n → o ≠ id → β o = .pend → β' o = .pend
theorem Kp.refl (n id : Nat) (β : Pl) : Kp n id β β := fun _ _ _ h => h
theorem Kp.trans {n id : Nat} {β β' β'' : Pl} (h : Kp n id β β') (k : Kp n id β' β'') : Kp n id β β'' := fun o h1 h2 h3 => k o h1 h2 (h o h1 h2 h3)
theorem kp_upd (n id : Nat) (β : Pl) (x : BO) : Kp n id β (upd β id x) := fun _ _ h2 h3 => by rw [upd_ne h2]; exact h3
theorem kp_kill (n id : Nat) {β : Pl} {o : Nat} (h : β o ≠ .pend) (x : BO) : Kp n id β (upd β o x) := fun p _ _ h3 => by
  have : p ≠ o := fun hp => h (hp ▸ h3)
  rw [upd_ne this]; exact h3
/-- A new object. -/
theorem hok_new (hH : HOK C B w S β H) (hS : Swf w S) (hB : B ≤ w.heap.size) {id : Nat} (hp : β id = .pend) (hlt : id < H.length) {cells : Array Value} {e : TypeId} {x : Obj}
    (hc : OCells C w S β cells w.heap.size 0 x) :
    HOK C B (w.alloc (.cells cells e)) S (upd β id (.at w.heap.size 0 x.shape)) (H.put id (some x)) ∧ Later β (upd β id (.at w.heap.size 0 x.shape)) ∧
      (∀ blk base k, upd β id (.at w.heap.size 0 x.shape) id = .at blk base k → blk = w.heap.size ∧ base = 0 ∧ k = x.shape) := by
  have hl := later_upd (x := .at w.heap.size 0 x.shape) hp
  have hext := alloc_ext hS hB (.cells cells e)
  have hnew : ∀ j, ¬ S w.heap.size j := fun j h => absurd (hS.lt h) (Nat.lt_irrefl _)
  refine ⟨⟨?_, ?_, ?_, ?_, ?_⟩, hl, ?_⟩
  · intro o blk base k ho
    by_cases h : o = id
    · subst h
      rw [upd_same] at ho
      cases ho
      refine ⟨hB, x, cells, e, obj_put_same hlt, rfl, ?_, hc.ext hext hl (fun _ h => h)⟩
      show (w.heap.push _)[w.heap.size]? = _
      simp
    · rw [upd_ne h] at ho
      obtain ⟨h1, x0, c0, e0, h2, h3, h4, h5⟩ := hH.live o blk base k ho
      refine ⟨h1, x0, c0, e0, by rw [obj_put_ne (fun h' => h h'.symm)]; exact h2, h3, ?_, h5.ext hext hl (fun _ h => h)⟩
      rw [Below.heap_alloc w _ blk (hH.lt ho)]; exact h4
  · intro o ho
    have h : o ≠ id := fun h => by subst h; rw [upd_same] at ho; cases ho
    rw [upd_ne h] at ho
    rw [obj_put_ne (fun h' => h h'.symm)]; exact hH.dead o ho
  · intro o ho
    have h : o ≠ id := fun h => by subst h; rw [upd_same] at ho; cases ho
    rw [upd_ne h] at ho
    rw [obj_put_ne (fun h' => h h'.symm)]; exact hH.virt o ho
  · intro o o' blk base k base' k' h1 h2
    by_cases ha : o = id
    · by_cases hb : o' = id
      · rw [ha, hb]
      · subst ha
        rw [upd_same] at h1; cases h1
        rw [upd_ne hb] at h2
        exact absurd (hH.lt h2) (Nat.lt_irrefl _)
    · by_cases hb : o' = id
      · subst hb
        rw [upd_same] at h2; cases h2
        rw [upd_ne ha] at h1
        exact absurd (hH.lt h1) (Nat.lt_irrefl _)
      · rw [upd_ne ha] at h1
        rw [upd_ne hb] at h2
        exact hH.inj o o' blk base k base' k' h1 h2
  · intro o ho
    rw [put_length] at ho
    have h : o ≠ id := by omega
    rw [upd_ne h]; exact hH.out o ho
  · intro blk base k h
    rw [upd_same] at h
    cases h
    exact ⟨rfl, rfl, rfl⟩
theorem mkV_cells {k : K} {f : Nat → Value} (hf : ∀ m, m < k.size → flat (f m)) : (mkV k f).cells = ((List.range k.size).map f).toArray := by
  cases k with
  | none =>
    have := hf 0 (by simp [K.size])
    have hl : (List.range (K.size none)).map f = [f 0] := rfl
    rw [hl]
    simp only [mkV]
    generalize f 0 = u at *
    cases u <;> first | rfl | (simp [flat, Value.oneCell'] at this)
  | some n => rfl
theorem fits_mkV {k : K} {v : PV} {u : Value} (h : fits k v = true) (hv : RelV C w S β v u) : ∃ f : Nat → Value, u = mkV k f ∧ ∀ m, m < k.size → flat (f m) := by
  have key : ∀ (n : Nat) (vs : List Value), vs.length = n → (∀ v ∈ vs, flat v) → ∃ f : Nat → Value, (.agg vs.toArray : Value) = mkV (some n) f ∧ ∀ m, m < n → flat (f m) := by
    intro n vs hl hf
    refine ⟨fun m => vs.getD m undef, ?_, ?_⟩
    · rw [mkV_some]
      congr 2
      apply List.ext_getElem
      · simp [hl]
      · intro i h1 h2
        simp [List.getD, List.getElem?_eq_getElem h1]
    · intro m hm
      have : m < vs.length := by omega
      simp only [List.getD, List.getElem?_eq_getElem this, Option.getD_some]
      exact hf _ (List.getElem_mem this)
  unfold fits at h
  split at h
  · refine ⟨fun _ => u, rfl, fun m _ => ?_⟩
    cases hv with
    | u => simp at h
    | d x _ hx =>
      refine hx.flat_of ?_
      rintro cs rfl
      simp at h
    | a => simp at h
    | t => simp at h
    | r _ _ _ _ _ _ h0 => exact h0
    | p _ _ _ _ h0 => exact h0
    | q => rfl
    | f => rfl
  · rename_i n
    split at h
    · simp only [beq_iff_eq] at h
      cases hv with
      | a _ vs h1 h2 h3 => exact key n vs (by omega) h2
    · simp only [beq_iff_eq] at h
      cases hv with
      | d _ _ hx =>
      cases hx with
      | a _ vs h1 h2 h3 => exact key n vs (by omega) h2
    · cases h
theorem zq_rel {t : TypeId} {z : DV} (h : zq P t = some z) : ∃ k v, kq P t = some k ∧ (P.info? t).bind (·.zero) = some v ∧ fits k (.d z) = true ∧ ∀ (w : World) (S : Stab), RelD w S z v := by
  unfold zq at h
  obtain ⟨k, hk, h⟩ := Option.bind_eq_some_iff.1 h
  obtain ⟨v, hv, h⟩ := Option.bind_eq_some_iff.1 h
  obtain ⟨z', hz, h⟩ := Option.bind_eq_some_iff.1 h
  split at h
  · cases h
    exact ⟨k, v, hk, hv, by assumption, fun w S => conD_sound hz⟩
  · cases h
theorem run_zero {t : TypeId} {v : Value} (h : (P.info? t).bind (·.zero) = some v) (w : World) : (zeroValue t).run P w = .ok v w := by
  obtain ⟨i, hi, hz⟩ := Option.bind_eq_some_iff.1 h
  simp [zeroValue, typeInfo, hi, hz]
/-- A new variable. -/
theorem new_var (hH : HOK C B w S β H) (hS : Swf w S) (hB : B ≤ w.heap.size) {id : Nat} (hp : β id = .pend) (hlt : id < H.length) {k : K} {v : PV} {u : Value} (hf : fits k v = true) (hv : RelV C w S β v u) (t : TypeId) :
    ∃ w' β', (newVar t u).run P w = .ok ⟨w.heap.size, 0, none⟩ w' ∧ Ext B w S w' S ∧ HOK C B w' S β' (H.put id (some (.box k v))) ∧ Later β β' ∧ RelV C w' S β' (.p id 0 0) (.pointer (some ⟨w.heap.size, 0, none⟩)) ∧ Kp H.length id β β' := by
  obtain ⟨f, rfl, hfl⟩ := fits_mkV hf hv
  have hc : OCells C w S β (mkV k f).cells w.heap.size 0 (.box k v) := by
    refine ⟨by rw [mkV_cells hfl]; simp, f, ?_, hv, fun j h => absurd (hS.lt h) (Nat.lt_irrefl _)⟩
    intro m hm
    rw [mkV_cells hfl]
    exact ⟨by simp [hm], hfl m hm⟩
  obtain ⟨h1, h2, h3⟩ := hok_new hH hS hB hp hlt (e := t) hc
  refine ⟨w.alloc (.cells (mkV k f).cells t), _, ?_, alloc_ext hS hB _, h1, h2, .p _ _ _ _ rfl ?_, kp_upd _ _ _ _⟩
  · simp [newVar, newRow]
  · unfold RelPt
    rw [upd_same]
    simp
theorem putAt_get {α : Type} {l : List α} {c : Nat} {xs : List α} (h : c + xs.length ≤ l.length) (m : Nat) :
    (putAt l c xs)[m]? = if c ≤ m ∧ m < c + xs.length then xs[m - c]? else l[m]? := by
  unfold putAt
  by_cases h1 : m < c
  · have h2 : ¬ (c ≤ m ∧ m < c + xs.length) := by omega
    rw [if_neg h2, List.append_assoc, List.getElem?_append_left (by simp; omega), List.getElem?_take, if_pos h1]
  · by_cases h3 : m < c + xs.length
    · rw [if_pos ⟨by omega, h3⟩, List.getElem?_append_left (by simp; omega), List.getElem?_append_right (by simp; omega)]
      simp; congr 1; omega
    · rw [if_neg (by omega), List.getElem?_append_right (by simp; omega), List.getElem?_drop]
      simp; congr 1; omega
theorem putAt_length {α : Type} {l : List α} {c : Nat} {xs : List α} (h : c + xs.length ≤ l.length) : (putAt l c xs).length = l.length := by
  simp [putAt]; omega
theorem map_range_get {n m : Nat} (g : Nat → Value) (h : m < n) : ((List.range n).map g)[m]? = some (g m) := by
  rw [List.getElem?_map, List.getElem?_range h]; rfl
/-- Storing a value of shape k at a place inside a block. -/
theorem run_store_at {t : TypeId} {k : K} (hk : kq P t = some k) {g : Nat → Value} (hg : ∀ m, m < k.size → flat (g m)) {blk o : Nat} {cells : Array Value} {e : TypeId}
    (hw : w.heap[blk]? = some (.cells cells e (0, 0))) (ho : o + k.size ≤ cells.size) :
    (Instr.storeAt t (.pointer (some ⟨blk, o, none⟩)) (mkV k g)).run P w = .ok () (w.setRow blk (putAt cells.toList o ((List.range k.size).map g)).toArray) := by
  have hcs := mkV_cells hg
  have hlen : ((List.range k.size).map g).length = k.size := by simp
  have := run_storeCells_at P blk o e ((List.range k.size).map g) 0 cells w hw (by simpa using ho) (by
    intro v hv
    obtain ⟨m, hm, rfl⟩ := List.mem_map.1 hv
    exact hg m (by simpa using hm))
  simp only [Instr.storeAt, Instr.sureAddr, Sem.run_bind, Sem.run_pure, Result.andThen_ok, storeVar, run_sizeK hk, hcs]
  simp only [List.size_toArray, hlen, ne_eq, not_true_eq_false, if_false, this, Nat.add_zero, putAt]
theorem fits_cells_length {k : K} {v : PV} (h : fits k v = true) : v.cells.length = k.size := by
  unfold fits at h
  split at h
  · split at h <;> first
      | (simp at h; done)
      | skip
    rename_i h1 h2 h3 h4
    have : v.cells = [v] := by
      unfold PV.cells
      split
      · exact absurd rfl (h1 _)
      · exact absurd rfl (h2 _)
      · rfl
    rw [this]; rfl
  · split at h
    · simpa [PV.cells, K.size] using h
    · simpa [PV.cells, K.size] using h
    · cases h
theorem mkV_ext {k : K} {f g : Nat → Value} (h : ∀ m, m < k.size → f m = g m) : mkV k f = mkV k g := by
  cases k with
  | none => exact h 0 (by simp [K.size])
  | some n =>
    rw [mkV_some, mkV_some]
    congr 2
    apply List.map_congr_left
    intro m hm
    exact h m (by simpa [K.size] using hm)
theorem pur_cells {v : PV} {x : DV} {os : List Nat} {k : K} (hf : fits k v = true) (h : pur H v = some (x, os)) : fits k (.d x) = true := by
  unfold pur at h
  have hl : ∀ {cs : List PV} {xs : List DV} {os : List Nat}, purL H cs = some (xs, os) → xs.length = cs.length := by
    intro cs
    induction cs with
    | nil => intro xs os h; cases h; rfl
    | cons v r ih =>
      intro xs os h
      unfold purL at h
      split at h
      · rename_i h2; cases h; simp [ih h2]
      · cases h
  split at h
  · split at h
    · rename_i h1
      cases h
      unfold fits at hf ⊢
      cases k with
      | none => simp at hf
      | some n => simpa [hl h1] using hf
    · cases h
  · unfold purC at h
    split at h
    · cases h; cases k <;> simp_all [fits]
    · cases h; exact hf
    · split at h
      · split at h
        · cases h; cases k <;> simp_all [fits]
        · cases h
      · cases h
    · cases h
theorem DV.cells_map (x : DV) : (PV.d x).cells = x.cells.map .d := by
  cases x <;> simp [PV.cells, DV.cells]
theorem mkP_length {k : K} {cs : List PV} {x : PV} (h : mkP k cs = some x) : cs.length = k.size := by
  unfold mkP at h
  split at h
  · split at h
    · rfl
    · cases h
  · split at h
    · assumption
    · cases h
theorem mkD_length {k : K} {cs : List DV} {x : DV} (h : mkD k cs = some x) : cs.length = k.size := by
  unfold mkD at h
  split at h
  · split at h
    · rfl
    · cases h
  · split at h
    · assumption
    · cases h
theorem fits_cells_lengthD {k : K} {v : DV} (h : fits k (.d v) = true) : v.cells.length = k.size := by
  have := fits_cells_length h
  rwa [DV.cells_map, List.length_map] at this
/-- A store. -/
theorem storeA_sound (hH : HOK C B w S β H) (hS : Swf w S) {t : TypeId} {k : K} (hk : kq P t = some k) {x v : PV} {ux uv : Value} (hx : RelV C w S β x ux) (hv : RelV C w S β v uv) {H' : Heap} (h : storeA H k x v = some H') :
    ∃ w' S', (Instr.storeAt t ux uv).run P w = .ok () w' ∧ Ext B w S w' S' ∧ Swf w' S' ∧ HOK C B w' S' β H' ∧ H'.length = H.length := by
  unfold storeA at h
  split at h
  · rename_i o i c
    split at h
    · rename_i hfit
      obtain ⟨g, rfl, hg⟩ := fits_mkV hfit hv
      have hvl := fits_cells_length hfit
      have hrl : ((List.range k.size).map g).length = k.size := by simp
      cases hx with
      | p _ _ _ _ h0 hp =>
      split at h
      · rename_i kb y ho
        unfold RelPt at hp
        split at hp
        · exact hp.elim
        · rename_i hb; rw [hH.dead o hb] at ho; cases ho
        · exact hp.elim
        · rename_i blk base k' hb
          subst hp
          obtain ⟨hB, x', cells, e, ho', hs, hw, hc⟩ := hH.live o blk base k' hb
          rw [ho] at ho'
          cases ho'
          obtain ⟨hbs, f, hf, hr, hn⟩ := hc
          simp only [Obj.shape] at hs
          subst hs
          split at h
          · rename_i hi
            simp only [beq_iff_eq] at hi
            subst hi
            -- the general case: new contents f'
            have main : ∀ y', c + k.size ≤ kb.size → RelV C w S β y' (mkV kb (fun m => if c ≤ m ∧ m < c + k.size then g (m - c) else f m)) →
                ∃ w', (Instr.storeAt t (.pointer (some ⟨blk, base + 0 * kb.size + c, none⟩)) (mkV k g)).run P w = .ok () w' ∧ Ext B w S w' S ∧ Swf w' S ∧ HOK C B w' S β (H.put o (some (.box kb y'))) := by
              intro y' hle hry
              have hsz : base + 0 * kb.size + c + k.size ≤ cells.size := by omega
              have hcl : (putAt cells.toList (base + 0 * kb.size + c) ((List.range k.size).map g)).length = cells.toList.length := putAt_length (by simpa using hsz)
              have hext := write_ext (S := S) (cells' := (putAt cells.toList (base + 0 * kb.size + c) ((List.range k.size).map g)).toArray) hB hw (by simpa using hcl) (fun j hj => absurd hj (hn j))
              refine ⟨_, run_store_at hk hg hw hsz, hext, hS.ext hext, ?_⟩
              refine write_hok hH hb hw (by simpa using hcl) (fun j hj => absurd hj (hn j)) rfl ?_
              have hcl' : (putAt cells.toList (base + 0 * kb.size + c) ((List.range k.size).map g)).toArray.size = cells.size := by simpa using hcl
              refine ⟨by rw [hcl']; exact hbs, _, ?_, hry.ext hext (Later.refl _), hn⟩
              intro m hm
              have hget := putAt_get (l := cells.toList) (c := base + 0 * kb.size + c) (xs := (List.range k.size).map g) (by simpa using hsz) (base + m)
              rw [hrl] at hget
              rw [List.getElem?_toArray, hget]
              by_cases hmc : c ≤ m ∧ m < c + k.size
              · have hc2 : base + 0 * kb.size + c ≤ base + m ∧ base + m < base + 0 * kb.size + c + k.size := by omega
                simp only [hmc, hc2, and_self, if_true]
                have : base + m - (base + 0 * kb.size + c) = m - c := by omega
                rw [this]
                exact ⟨map_range_get g (by omega), hg _ (by omega)⟩
              · have hc2 : ¬ (base + 0 * kb.size + c ≤ base + m ∧ base + m < base + 0 * kb.size + c + k.size) := by omega
                simp only [hmc, hc2, if_false]
                simpa using hf m hm
            split at h
            · rename_i hck
              simp only [Bool.and_eq_true, beq_iff_eq] at hck
              obtain ⟨rfl, hkk⟩ := hck
              have := K.eq_spec hkk
              subst this
              cases h
              obtain ⟨w', h1, h2, h3, h4⟩ := main v (by omega) (by
                rw [mkV_ext (g := g)]
                · exact hv
                · intro m hm; rw [if_pos (by omega)]; simp)
              exact ⟨w', S, h1, h2, h3, h4, put_length _ _ _⟩
            · split at h
              · rename_i hle
                split at h
                · rename_i y' hy'
                  cases h
                  have hle2 : c + k.size ≤ kb.size := by
                    have h1 := mkP_length hy'
                    rw [putAt_length (by omega)] at h1
                    omega
                  obtain ⟨w', h1, h2, h3, h4⟩ := main y' hle2 (by
                    refine mkP_rel hy' ?_ ?_
                    · intro m z hz hm
                      rw [putAt_get (by omega)] at hz
                      rw [hvl] at hz
                      split at hz
                      · rename_i hc1
                        simp only [hc1, and_self, if_true]
                        exact hv.cells hg (m - c) z hz (by omega)
                      · rename_i hc1
                        simp only [hc1, if_false]
                        exact hr.cells (fun m hm => (hf m hm).2) m z hz hm
                    · intro m hm
                      split
                      · exact hg _ (by omega)
                      · exact (hf m hm).2)
                  exact ⟨w', S, h1, h2, h3, h4, put_length _ _ _⟩
                · cases h
              · cases h
          · cases h
      · rename_i kb ro es ho
        split at h
        · rename_i ee hee
          obtain ⟨hil, rfl⟩ := List.getElem?_eq_some_iff.1 hee
          split at h
          · rename_i hro
            split at h
            · rename_i x os hpur
              split at h
              · cases h
              · rename_i hno
                have hno' : o ∉ os := by simpa using hno
                have hfx := pur_cells hfit hpur
                have hxl := fits_cells_lengthD hfx
                unfold RelPt at hp
                split at hp
                · exact hp.elim
                · rename_i hb; rw [hH.dead o hb] at ho; cases ho
                · exact hp.elim
                · rename_i blk base k' hb
                  subst hp
                  have hH1 := freeze_hok hH os
                  have hext1 := freeze_ext hH os
                  have hS1 := freeze_swf hH hS os
                  have hvx := pur_rel hH hv hpur
                  generalize hS1d : FS β H os S = S1 at *
                  have hob : (frz H os).obj o = some (.sl kb ro es) := by rw [frz_obj, ho]; simp [frzO, hno']
                  obtain ⟨hB, x', cells, e, ho', hs, hw, hc⟩ := hH1.live o blk base k' hb
                  rw [hob] at ho'
                  cases ho'
                  obtain ⟨hbs, cf, hf, hr, hn⟩ := hc
                  simp only [Obj.shape] at hs
                  subst hs
                  have hi1 : (i + 1) * kb.size ≤ es.length * kb.size := Nat.mul_le_mul_right _ hil
                  rw [Nat.add_mul, Nat.one_mul] at hi1
                  have hi2 : ro * kb.size ≤ i * kb.size := Nat.mul_le_mul_right _ hro
                  have main : ∀ y', c + k.size ≤ kb.size → RelD w S1 y' (mkV kb (fun m => if c ≤ m ∧ m < c + k.size then g (m - c) else cf i m)) →
                      ∃ w', (Instr.storeAt t (.pointer (some ⟨blk, base + i * kb.size + c, none⟩)) (mkV k g)).run P w = .ok () w' ∧ Ext B w S1 w' S1 ∧ Swf w' S1 ∧ HOK C B w' S1 β ((frz H os).put o (some (.sl kb ro (es.set i y')))) := by
                    intro y' hle hry
                    have hsz : base + i * kb.size + c + k.size ≤ cells.size := by omega
                    have hcl : (putAt cells.toList (base + i * kb.size + c) ((List.range k.size).map g)).length = cells.toList.length := putAt_length (by simpa using hsz)
                    have hget : ∀ j, (putAt cells.toList (base + i * kb.size + c) ((List.range k.size).map g)).toArray[j]? = if base + i * kb.size + c ≤ j ∧ j < base + i * kb.size + c + k.size then ((List.range k.size).map g)[j - (base + i * kb.size + c)]? else cells[j]? := by
                      intro j
                      have := putAt_get (l := cells.toList) (c := base + i * kb.size + c) (xs := (List.range k.size).map g) (by simpa using hsz) j
                      rw [hrl] at this
                      rw [List.getElem?_toArray, this]
                      simp
                    have hkeep : ∀ j, S1 blk j → (putAt cells.toList (base + i * kb.size + c) ((List.range k.size).map g)).toArray[j]? = cells[j]? := by
                      intro j hj
                      rw [hget, if_neg]
                      intro hc
                      exact hn j (by omega) hj
                    have hext := write_ext (S := S1) (cells' := (putAt cells.toList (base + i * kb.size + c) ((List.range k.size).map g)).toArray) hB hw (by simpa using hcl) hkeep
                    refine ⟨_, run_store_at hk hg hw hsz, hext, hS1.ext hext, ?_⟩
                    refine write_hok hH1 hb hw (by simpa using hcl) hkeep rfl ?_
                    have hcl' : (putAt cells.toList (base + i * kb.size + c) ((List.range k.size).map g)).toArray.size = cells.size := by simpa using hcl
                    refine ⟨by rw [hcl', List.length_set]; exact hbs, (fun j m => if j = i then (if c ≤ m ∧ m < c + k.size then g (m - c) else cf i m) else cf j m), ?_, ?_, hn⟩
                    · intro j hj m hm
                      rw [List.length_set] at hj
                      rw [hget]
                      by_cases hji : j = i
                      · subst hji
                        simp only [if_true]
                        by_cases hmc : c ≤ m ∧ m < c + k.size
                        · have hc2 : base + j * kb.size + c ≤ base + j * kb.size + m ∧ base + j * kb.size + m < base + j * kb.size + c + k.size := by omega
                          simp only [hmc, hc2, and_self, if_true]
                          have : base + j * kb.size + m - (base + j * kb.size + c) = m - c := by omega
                          rw [this]
                          exact ⟨map_range_get g (by omega), hg _ (by omega)⟩
                        · have hc2 : ¬ (base + j * kb.size + c ≤ base + j * kb.size + m ∧ base + j * kb.size + m < base + j * kb.size + c + k.size) := by omega
                          simp only [hmc, hc2, if_false]
                          exact hf j hj m hm
                      · simp only [hji, if_false]
                        have hc2 : ¬ (base + i * kb.size + c ≤ base + j * kb.size + m ∧ base + j * kb.size + m < base + i * kb.size + c + k.size) := by
                          rcases Nat.lt_or_gt_of_ne hji with h1 | h1
                          · have : (j + 1) * kb.size ≤ i * kb.size := Nat.mul_le_mul_right _ h1
                            rw [Nat.add_mul, Nat.one_mul] at this
                            omega
                          · have : (i + 1) * kb.size ≤ j * kb.size := Nat.mul_le_mul_right _ h1
                            rw [Nat.add_mul, Nat.one_mul] at this
                            omega
                        simp only [hc2, if_false]
                        exact hf j hj m hm
                    · intro j hj
                      rw [List.length_set] at hj
                      rw [List.getElem_set]
                      by_cases hji : i = j
                      · subst hji
                        simp only [if_true]
                        exact hry.ext hext
                      · have : ¬ j = i := fun h => hji h.symm
                        simp only [hji, this, if_false]
                        exact (hr j hj).ext hext
                  have fin : ∀ y', c + k.size ≤ kb.size → RelD w S1 y' (mkV kb (fun m => if c ≤ m ∧ m < c + k.size then g (m - c) else cf i m)) →
                      ∃ w' S', (Instr.storeAt t (.pointer (some ⟨blk, base + i * kb.size + c, none⟩)) (mkV k g)).run P w = .ok () w' ∧ Ext B w S w' S' ∧ Swf w' S' ∧ HOK C B w' S' β ((frz H os).put o (some (.sl kb ro (es.set i y')))) ∧ ((frz H os).put o (some (.sl kb ro (es.set i y')))).length = H.length := by
                    intro y' h1 h2
                    obtain ⟨w', a1, a2, a3, a4⟩ := main y' h1 h2
                    exact ⟨w', S1, a1, hext1.trans a2, a3, a4, by rw [put_length, frz_length]⟩
                  split at h
                  · rename_i hck
                    simp only [Bool.and_eq_true, beq_iff_eq] at hck
                    obtain ⟨rfl, hkk⟩ := hck
                    have := K.eq_spec hkk
                    subst this
                    cases h
                    refine fin x (by omega) ?_
                    rw [mkV_ext (g := g)]
                    · exact hvx
                    · intro m hm; rw [if_pos (by omega)]; simp
                  · split at h
                    · rename_i hle
                      split at h
                      · rename_i y' hy'
                        cases h
                        have hle2 : c + k.size ≤ kb.size := by
                          have h1 := mkD_length hy'
                          rw [putAt_length (by omega)] at h1
                          omega
                        refine fin y' hle2 (mkD_rel hy' ?_ ?_)
                        · intro m z hz hm
                          rw [putAt_get (by omega)] at hz
                          rw [hxl] at hz
                          split at hz
                          · rename_i hc1
                            simp only [hc1, and_self, if_true]
                            exact hvx.cells hg (m - c) z hz (by omega)
                          · rename_i hc1
                            simp only [hc1, if_false]
                            exact (hr i hil).cells (fun m hm => (hf i hil m hm).2) m z hz hm
                        · intro m hm
                          split
                          · exact hg _ (by omega)
                          · exact (hf i hil m hm).2
                      · cases h
                    · cases h
            · cases h
          · cases h
        · cases h
      · cases h
    · cases h
  · cases h
end
end Go.Sim
