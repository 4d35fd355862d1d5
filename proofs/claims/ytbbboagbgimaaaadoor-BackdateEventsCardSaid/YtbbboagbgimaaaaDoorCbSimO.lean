/- Each operation of the model does what the abstract machine says. First part: operands, memory. -/
import Derived.Test.YtbbboagbgimaaaaDoorCbSimR
import Derived.Laws.Cells
import Derived.ChangeKeysEq
import Derived.Orders
open Go.RowKit
namespace Go.Sim
section
variable {P : Program} {N : Names} {C : Cx} {w : World} {S : Stab} {β : Pl} {a : Act}
theorem RelD.nilSlice (k : K) (t : Bool) : RelD w S (.l k [] t) (.slice none 0 0) :=
  .l k [] t none 0 0 0 (fun _ _ => undef) (Nat.le_refl _) (fun _ => rfl) (fun h => absurd h (Nat.lt_irrefl _)) (fun _ hj => absurd hj (Nat.not_lt_zero _)) (fun _ hj => absurd hj (Nat.not_lt_zero _))
theorem conC_sound {z : DV} {v : Value} {d : DV} (h : conC z v = some d) : RelD w S d v ∧ flat v := by
  unfold conC at h
  split at h <;> first
    | (cases h; exact ⟨.b _, rfl⟩) | (cases h; exact ⟨.i _ _, rfl⟩) | (cases h; exact ⟨.s _ _ rfl, rfl⟩) | (cases h; exact ⟨RelD.nilSlice _ _, rfl⟩)
    | (cases h; exact ⟨.np, rfl⟩) | (cases h; exact ⟨.nf, rfl⟩) | (cases h; exact ⟨.ni, rfl⟩) | (cases h; exact ⟨.nm, rfl⟩) | (cases h)
theorem conL_sound : ∀ {zs : List DV} {vs : List Value} {ds : List DV}, conL zs vs = some ds → ds.length = vs.length ∧ (∀ v ∈ vs, flat v) ∧ ∀ j (h : j < ds.length) (h' : j < vs.length), RelD w S ds[j] vs[j]
  | [], [], ds, h => by cases h; exact ⟨rfl, fun v hv => (List.not_mem_nil hv).elim, fun j h => absurd h (Nat.not_lt_zero _)⟩
  | [], _ :: _, ds, h => by cases h
  | _ :: _, [], ds, h => by cases h
  | z :: zs, v :: vs, ds, h => by
    unfold conL at h
    split at h
    · rename_i x xs hx hxs
      cases h
      obtain ⟨h1, h2, h3⟩ := conL_sound hxs
      obtain ⟨h4, h5⟩ := conC_sound (w := w) (S := S) hx
      refine ⟨by simp [h1], ?_, ?_⟩
      · intro u hu
        rcases List.mem_cons.1 hu with rfl | hu
        · exact h5
        · exact h2 u hu
      · intro j hj hj'
        cases j with
        | zero => exact h4
        | succ j => exact h3 j (by simpa using hj) (by simpa using hj')
    · cases h
theorem conD_sound {t : Option TypeId} {v : Value} {d : DV} (h : conD P t v = some d) : RelD w S d v := by
  unfold conD at h
  split at h
  · rename_i cs
    split at h
    · cases hc : conL (zeroL P 12 _) cs.toList with
      | none => rw [hc] at h; cases h
      | some ds =>
        rw [hc] at h; cases h
        obtain ⟨h1, h2, h3⟩ := conL_sound (w := w) (S := S) hc
        have := RelD.a ds cs.toList h1 h2 h3
        simpa using this
    · cases h
  · exact (conC_sound h).1
/-- The names of the functions, and what the package-level variables hold. -/
structure NOK (P : Program) (N : Names) (C : Cx) (G : Nat → Option (DV × K)) : Prop where
  f : ∀ f x, N.f f = some x → C.μ x.1 = f
  mixed : P.follows .mixedOrders = true
def GOK (N : Names) (G : Nat → Option (DV × K)) (w : World) (S : Stab) : Prop :=
  ∀ g v k, G (N.g g) = some (v, k) → ∃ f, At w S g 0 k.size f ∧ RelD w S v (mkV k f)
theorem GOK.ext {G : Nat → Option (DV × K)} {w' : World} {S' : Stab} {B : Nat} (e : Ext B w S w' S') (h : GOK N G w S) : GOK N G w' S' :=
  fun g v k hg => let ⟨f, h1, h2⟩ := h g v k hg; ⟨f, h1.ext e, h2.ext e⟩
def FOK (C : Cx) (w : World) (S : Stab) (β : Pl) (fr : Fr) (a : Act) : Prop := ∀ t, RelV C w S β (fr.get t) (a.tmps.getD t undef)
theorem rand_sound {E : Env} (hN : NOK P N C E.G) (hG : GOK N E.G w S) {fr : Fr} (hf : FOK C w S β fr a) {t : Option TypeId} {x : Operand} {r : Rand}
    (h : rand P N t x = some r) : RelV C w S β (rd E fr r) (a.eval x) := by
  unfold rand at h
  split at h
  · cases h; exact hf _
  · rename_i v
    cases hc : conD P t v with
    | none => rw [hc] at h; cases h
    | some d => rw [hc] at h; cases h; exact .d _ _ (conD_sound hc)
  · rename_i g
    cases h
    simp only [rd, Act.eval]
    split
    · rename_i v k hg
      obtain ⟨f, h1, h2⟩ := hG g v k hg
      exact .q v k 0 g 0 f h1 h2
    · exact .u _
  · rename_i f
    cases hc : N.f f with
    | none => rw [hc] at h; cases h
    | some x =>
      rw [hc] at h; cases h
      have := RelV.f (C := C) (w := w) (S := S) (β := β) x.1 [] [] rfl (fun j h => absurd h (Nat.not_lt_zero _))
      simpa [rd, Act.eval, hN.f f x hc] using this
end

/-! Types. -/
section
variable {P : Program} {w : World}
theorem info_of_underlying {t : TypeId} {d : TypeDesc} (h : P.underlying t = some d) : ∃ i, P.info? t = some i := by
  unfold Program.underlying at h
  split at h
  · exact ⟨_, ‹_›⟩
  · exact ⟨_, ‹_›⟩
  · cases h
theorem run_und {t : TypeId} {d : TypeDesc} (h : P.underlying t = some d) (w : World) : (underlying t).run P w = .ok d w := by
  simp [underlying, h]
theorem run_size {t : TypeId} {d : TypeDesc} (h : P.underlying t = some d) (w : World) : (sizeOf t).run P w = .ok (P.cellsOf t) w := by
  obtain ⟨i, hi⟩ := info_of_underlying h
  simp [sizeOf, typeInfo, hi, Program.cellsOf]
theorem kq_und {t : TypeId} {k : K} (h : kq P t = some k) : ∃ d, P.underlying t = some d := by
  unfold kq at h
  split at h <;> first | exact ⟨_, ‹_›⟩ | cases h
theorem kq_size {t : TypeId} {k : K} (h : kq P t = some k) : P.cellsOf t = k.size := by
  unfold kq at h
  split at h
  · cases h; rfl
  · cases h; rfl
  · split at h
    · cases h; assumption
    · cases h
  · cases h
theorem run_sizeK {t : TypeId} {k : K} (h : kq P t = some k) (w : World) : (sizeOf t).run P w = .ok k.size w := by
  obtain ⟨d, hd⟩ := kq_und h
  rw [run_size hd, kq_size h]
theorem run_isAggK {t : TypeId} {k : K} (h : kq P t = some k) (w : World) : (isAgg t).run P w = .ok k.isSome w := by
  unfold kq at h
  split at h
  · rename_i hu; cases h; simp [isAgg, underlying, hu]
  · rename_i hu; cases h; simp [isAgg, underlying, hu]
  · rename_i d h1 h2 hu
    split at h
    · cases h
      cases d <;> simp [isAgg, underlying, hu] <;> simp_all
    · cases h
  · cases h
theorem add_at (blk off m : Nat) : (⟨blk, off, none⟩ : Addr).add m = ⟨blk, off + m, none⟩ := by unfold Addr.add; split <;> simp_all
theorem run_loadVarK {t : TypeId} {k : K} (h : kq P t = some k) {blk off : Nat} {c : Nat → Value} (hc : ∀ m, m < k.size → w.cell? ⟨blk, off + m, none⟩ = some (c m)) :
    (loadVar t ⟨blk, off, none⟩).run P w = .ok (mkV k c) w := by
  simp only [loadVar, Sem.run_bind, run_isAggK h, Result.andThen_ok]
  cases k with
  | none =>
    have := hc 0 (by simp [K.size])
    simp only [Nat.add_zero] at this
    simp [this, mkV]
  | some n =>
    have := run_loadCells (P := P) w ⟨blk, off, none⟩ n c (fun j hj => by rw [add_at]; exact hc j hj)
    simp [run_sizeK h, K.size, this, mkV]
end
section
variable {P : Program} {N : Names} {C : Cx} {w : World} {S : Stab} {β : Pl}
theorem mkV_some (n : Nat) (c : Nat → Value) : mkV (some n) c = .agg ((List.range n).map c).toArray := rfl
/-- The cells of a value of shape k. -/
theorem RelD.cells {k : K} {f : Nat → Value} (hf : ∀ m, m < k.size → flat (f m)) {x : DV} (h : RelD w S x (mkV k f)) (m : Nat) (y : DV) (hy : x.cells[m]? = some y) (hm : m < k.size) : RelD w S y (f m) := by
  cases k with
  | none =>
    have h0 : m = 0 := by simp [K.size] at hm; exact hm
    subst h0
    have hfl := hf 0 (by simp [K.size])
    simp only [mkV] at h
    generalize f 0 = u at *
    cases h <;> first
      | (simp [flat, Value.oneCell'] at hfl; done)
      | (simp [DV.cells] at hy; subst hy; constructor <;> assumption)
  | some n =>
    simp only [mkV_some] at h
    generalize hv : ((List.range n).map f).toArray = vs at h
    cases h with
    | a cs l h1 h2 h3 =>
      have hl : l = (List.range n).map f := by
        have := congrArg Array.toList hv
        simpa using this.symm
      subst hl
      simp only [DV.cells] at hy
      obtain ⟨hj, rfl⟩ := List.getElem?_eq_some_iff.1 hy
      have := h3 m hj (by rw [← h1]; exact hj)
      simpa using this
theorem plains_map : ∀ {cs : List PV} {vs : List DV}, plains cs = some vs → cs = vs.map .d
  | [], vs, h => by cases h; rfl
  | v :: r, vs, h => by
    cases v with
    | d x =>
      simp only [plains] at h
      split at h
      · rename_i xs hx
        cases h
        simp [plains_map hx]
      · cases h
    | _ => simp [plains] at h
theorem RelV.cells {k : K} {f : Nat → Value} (hf : ∀ m, m < k.size → flat (f m)) {x : PV} (h : RelV C w S β x (mkV k f)) (m : Nat) (y : PV) (hy : x.cells[m]? = some y) (hm : m < k.size) : RelV C w S β y (f m) := by
  cases k with
  | none =>
    have h0 : m = 0 := by simp [K.size] at hm; exact hm
    subst h0
    have hfl := hf 0 (by simp [K.size])
    simp only [mkV] at h
    generalize f 0 = u at *
    cases h with
    | u v => simp [PV.cells] at hy; subst hy; exact .u _
    | d x v h =>
      have hx : ∀ cs, x ≠ .a cs := by
        rintro cs rfl
        cases h
        simp [flat, Value.oneCell'] at hfl
      have : (PV.d x).cells = [.d x] := by
        unfold PV.cells
        split
        · rename_i heq; cases heq
        · rename_i heq; cases heq; exact absurd rfl (hx _)
        · rfl
      rw [this] at hy
      simp at hy
      subst hy
      exact .d _ _ h
    | a cs l h1 h2 h3 => simp [flat, Value.oneCell'] at hfl
    | t cs l h1 h3 => simp [flat, Value.oneCell'] at hfl
    | r o k off len t v h0 h => simp [PV.cells] at hy; subst hy; exact .r _ _ _ _ _ _ h0 h
    | p o i c v h0 h => simp [PV.cells] at hy; subst hy; exact .p _ _ _ _ h0 h
    | q x k c blk off f h1 h2 => simp [PV.cells] at hy; subst hy; exact .q _ _ _ _ _ _ h1 h2
    | f n cs l h1 h2 => simp [PV.cells] at hy; subst hy; exact .f _ _ _ h1 h2
  | some n =>
    simp only [mkV_some] at h
    generalize hv : ((List.range n).map f).toArray = vs at h
    have hl : ∀ l : List Value, l.toArray = vs → l = (List.range n).map f := by
      intro l hl
      subst hv
      simpa using congrArg Array.toList hl
    cases h with
    | u v =>
      simp only [PV.cells] at hy
      cases m with
      | zero => simp at hy; subst hy; exact .u _
      | succ m => simp at hy
    | d x v h =>
      cases x with
      | a cs =>
        simp only [PV.cells, List.getElem?_map] at hy
        cases hc : cs[m]? with
        | none => rw [hc] at hy; cases hy
        | some z =>
          rw [hc] at hy; cases hy
          subst hv
          exact .d _ _ (RelD.cells (k := some n) hf h m z (by simpa [DV.cells] using hc) hm)
      | _ => cases h
    | a cs l h1 h2 h3 =>
      have := hl l rfl
      subst this
      simp only [PV.cells] at hy
      obtain ⟨hj, rfl⟩ := List.getElem?_eq_some_iff.1 hy
      have := h3 m hj (by rw [← h1]; exact hj)
      simpa using this
    | r o k off len t v h0 h => simp [flat, Value.oneCell'] at h0
    | p o i c v h0 h => simp [flat, Value.oneCell'] at h0
theorem mkD_rel {k : K} {cs : List DV} {x : DV} {g : Nat → Value} (h : mkD k cs = some x) (hr : ∀ m y, cs[m]? = some y → m < k.size → RelD w S y (g m)) (hf : ∀ m, m < k.size → flat (g m)) : RelD w S x (mkV k g) := by
  cases k with
  | none =>
    simp only [mkD] at h
    split at h
    · cases h; exact hr 0 _ rfl (by simp [K.size])
    · cases h
  | some n =>
    simp only [mkD] at h
    split at h
    · rename_i hl
      cases h
      rw [mkV_some]
      refine .a cs _ (by simp [hl]) ?_ ?_
      · intro v hv
        obtain ⟨m, hm, rfl⟩ := List.mem_map.1 hv
        exact hf m (by simpa [K.size] using hm)
      · intro j hj hj'
        have := hr j cs[j] (List.getElem?_eq_getElem hj) (by simp [K.size]; omega)
        simpa using this
    · cases h
theorem mkP_rel {k : K} {cs : List PV} {x : PV} {g : Nat → Value} (h : mkP k cs = some x) (hr : ∀ m y, cs[m]? = some y → m < k.size → RelV C w S β y (g m)) (hf : ∀ m, m < k.size → flat (g m)) : RelV C w S β x (mkV k g) := by
  cases k with
  | none =>
    simp only [mkP] at h
    split at h
    · cases h; exact hr 0 _ rfl (by simp [K.size])
    · cases h
  | some n =>
    simp only [mkP] at h
    split at h
    · rename_i hl
      cases h
      have hfl : ∀ v ∈ (List.range n).map g, flat v := by
        intro v hv
        obtain ⟨m, hm, rfl⟩ := List.mem_map.1 hv
        exact hf m (by simpa [K.size] using hm)
      have hall : ∀ j (h : j < cs.length) (h' : j < ((List.range n).map g).length), RelV C w S β cs[j] ((List.range n).map g)[j] := by
        intro j hj hj'
        have := hr j cs[j] (List.getElem?_eq_getElem hj) (by simp [K.size]; omega)
        simpa using this
      rw [mkV_some]
      unfold mkA
      split
      · rename_i vs hp
        have := plains_map hp
        subst this
        refine .d _ _ (.a vs _ (by simpa using hl) hfl ?_)
        intro j hj hj'
        have h1 := hall j (by simpa using hj) hj'
        simp only [List.getElem_map] at h1
        cases h1 with
        | d _ _ h => simpa using h
      · exact .a cs _ (by simp [hl]) hfl hall
    · cases h
theorem K.eq_spec {k k' : K} (h : K.eq k k' = true) : k = k' := by
  cases k <;> cases k' <;> simp_all [K.eq]
theorem getElem?_drop_take {α : Type} {l : List α} {c n m : Nat} {y : α} (h : ((l.drop c).take n)[m]? = some y) : l[c + m]? = some y ∧ m < n := by
  rw [List.getElem?_take] at h
  split at h
  · rw [List.getElem?_drop] at h; exact ⟨h, by assumption⟩
  · cases h
theorem subD_rel {kv k : K} {v x : DV} {c : Nat} {f : Nat → Value} (h : subD kv v c k = some x) (hf : ∀ m, m < kv.size → flat (f m)) (hv : RelD w S v (mkV kv f)) :
    RelD w S x (mkV k (fun m => f (c + m))) ∧ c + k.size ≤ kv.size := by
  unfold subD at h
  split at h
  · rename_i hc
    simp only [Bool.and_eq_true, beq_iff_eq] at hc
    obtain ⟨rfl, hk⟩ := hc
    have := K.eq_spec hk
    subst this
    cases h
    simpa using hv
  · split at h
    · rename_i hle
      refine ⟨mkD_rel h ?_ fun m hm => hf _ (by omega), hle⟩
      intro m y hy hm
      obtain ⟨h1, h2⟩ := getElem?_drop_take hy
      exact hv.cells hf (c + m) y h1 (by omega)
    · cases h
theorem subP_rel {kv k : K} {v x : PV} {c : Nat} {f : Nat → Value} (h : subP kv v c k = some x) (hf : ∀ m, m < kv.size → flat (f m)) (hv : RelV C w S β v (mkV kv f)) :
    RelV C w S β x (mkV k (fun m => f (c + m))) ∧ c + k.size ≤ kv.size := by
  unfold subP at h
  split at h
  · rename_i hc
    simp only [Bool.and_eq_true, beq_iff_eq] at hc
    obtain ⟨rfl, hk⟩ := hc
    have := K.eq_spec hk
    subst this
    cases h
    simpa using hv
  · split at h
    · rename_i hle
      refine ⟨mkP_rel h ?_ fun m hm => hf _ (by omega), hle⟩
      intro m y hy hm
      obtain ⟨h1, h2⟩ := getElem?_drop_take hy
      exact hv.cells hf (c + m) y h1 (by omega)
    · cases h
theorem cell_of_heap {w : World} {blk j : Nat} {cells : Array Value} {e : TypeId} {fz : Nat × Nat} {v : Value} (h : w.heap[blk]? = some (.cells cells e fz)) (hj : cells[j]? = some v) : w.cell? ⟨blk, j, none⟩ = some v := by
  simp [World.cell?, h, hj]
/-- A load. -/
theorem loadA_sound {B : Nat} {H : Heap} (hH : HOK C B w S β H) {t : TypeId} {k : K} (hk : kq P t = some k) {x v : PV} {u : Value} (hx : RelV C w S β x u) (h : loadA H k x = some v) :
    ∃ u', (Instr.loadAt t u).run P w = .ok u' w ∧ RelV C w S β v u' := by
  unfold loadA at h
  split at h
  · rename_i o i c
    cases hx with
    | p _ _ _ _ h0 hp =>
    unfold RelPt at hp
    split at hp
    · exact hp.elim
    · rename_i hb; rw [hH.dead o hb] at h; cases h
    · exact hp.elim
    · rename_i blk base k' hb
      subst hp
      obtain ⟨hB, x', cells, e, ho, hs, hw, hc⟩ := hH.live o blk base k' hb
      rw [ho] at h
      cases x' with
      | box kb y =>
        simp only at h
        simp only [Obj.shape] at hs
        subst hs
        split at h
        · rename_i hi
          simp only [beq_iff_eq] at hi
          subst hi
          obtain ⟨-, f, hf, hr, -⟩ := hc
          obtain ⟨h1, h2⟩ := subP_rel h (fun m hm => (hf m hm).2) hr
          refine ⟨_, ?_, h1⟩
          simp only [Instr.loadAt, Instr.sureAddr, Sem.run_bind, Sem.run_pure, Result.andThen_ok]
          refine run_loadVarK hk ?_
          intro m hm
          have := (hf (c + m) (by omega)).1
          exact cell_of_heap hw (by simpa [Nat.add_assoc] using this)
        · cases h
      | sl kb ro es =>
        simp only at h
        simp only [Obj.shape] at hs
        subst hs
        split at h
        · rename_i ee he
          obtain ⟨hj, rfl⟩ := List.getElem?_eq_some_iff.1 he
          split at h
          · rename_i xx hx
            cases h
            obtain ⟨-, cf, hf, hr, -⟩ := hc
            obtain ⟨h1, h2⟩ := subD_rel hx (fun m hm => (hf i hj m hm).2) (hr i hj)
            refine ⟨_, ?_, .d _ _ h1⟩
            simp only [Instr.loadAt, Instr.sureAddr, Sem.run_bind, Sem.run_pure, Result.andThen_ok]
            refine run_loadVarK hk ?_
            intro m hm
            have := (hf i hj (c + m) (by omega)).1
            exact cell_of_heap hw (by simpa [Nat.add_assoc] using this)
          · cases h
        · cases h
  · rename_i v0 kv c
    split at h
    · rename_i xx hxx
      cases h
      cases hx with
      | q _ _ _ blk off f h1 h2 =>
      obtain ⟨h3, h4⟩ := subD_rel hxx (fun m hm => (h1 m hm).2.2) h2
      refine ⟨_, ?_, .d _ _ h3⟩
      simp only [Instr.loadAt, Instr.sureAddr, Sem.run_bind, Sem.run_pure, Result.andThen_ok]
      refine run_loadVarK hk ?_
      intro m hm
      have := (h1 (c + m) (by omega)).1
      simpa [Nat.add_assoc] using this
    · cases h
  · cases h
end
end Go.Sim
