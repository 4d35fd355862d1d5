/- Operations that touch no memory. -/
import Derived.Test.YtbbboagbgimaaaaDoorCbSimO
import Derived.Laws.StructEq
open Go.RowKit
namespace Go.Sim
section
variable {P : Program} {N : Names} {C : Cx} {w : World} {S : Stab} {β : Pl} {B : Nat} {H : Heap}
theorem asI_rel {x : PV} {u : Value} {n : Int} (h : RelV C w S β x u) (hx : asI x = some n) : ∃ k, u = .int k n := by
  unfold asI at hx
  split at hx
  · cases hx
    cases h with
    | d _ _ h => cases h; exact ⟨_, rfl⟩
  · cases hx
theorem moveA_rel {x y : PV} {u : Value} {off : Nat} (h : RelV C w S β x u) (hx : moveA off x = some y) :
    ∃ blk o, u = .pointer (some ⟨blk, o, none⟩) ∧ RelV C w S β y (.pointer (some ⟨blk, o + off, none⟩)) := by
  unfold moveA at hx
  split at hx
  · cases hx
    cases h with
    | p o i c _ h0 h =>
    unfold RelPt at h
    split at h
    · exact h.elim
    · rename_i hb
      obtain ⟨blk, o', rfl⟩ := h
      exact ⟨blk, o', rfl, .p _ _ _ _ rfl (by unfold RelPt; rw [hb]; exact ⟨_, _, rfl⟩)⟩
    · exact h.elim
    · rename_i blk base k hb
      subst h
      exact ⟨_, _, rfl, .p _ _ _ _ rfl (by unfold RelPt; rw [hb]; simp [Nat.add_assoc])⟩
  · cases hx
    cases h with
    | q x k c blk o f h1 h2 =>
    refine ⟨_, _, rfl, ?_⟩
    rename_i c
    have := RelV.q (C := C) (β := β) _ _ (c + off) blk o f h1 h2
    simpa [Nat.add_assoc] using this
  · cases hx
theorem run_fieldAt {s f : Nat} {fd : Field} {k : K} (hs : fieldAt P s f = some fd) (hk : kq P fd.type = some k) (hz : k.size ≠ 0) (blk off : Nat) (w : World) :
    (Instr.fieldAt s (.pointer (some ⟨blk, off, none⟩)) f).run P w = .ok (.pointer (some ⟨blk, off + fd.offset, none⟩)) w := by
  unfold fieldAt at hs
  split at hs
  · rename_i fs hu
    simp [Instr.fieldAt, run_und hu, hs, Instr.sureAddr, fieldPlace, run_sizeK hk, hz, add_at]
  · cases hs
theorem run_part {t : TypeId} {k : K} (hk : kq P t = some k) {vs : List Value} {off : Nat} (hle : off + k.size ≤ vs.length) (w : World) :
    (part t vs.toArray off).run P w = .ok (mkV k (fun m => vs.getD (off + m) undef)) w := by
  simp only [part, Sem.run_bind, run_isAggK hk, Result.andThen_ok]
  cases k with
  | none =>
    have : off < vs.length := by simp [K.size] at hle; omega
    simp [mkV, List.getD, List.getElem?_eq_getElem this]
  | some n =>
    simp only [Option.isSome_some, if_true, Sem.run_bind, run_sizeK hk, Result.andThen_ok, K.size, Sem.run_pure, mkV]
    congr 2
    apply Array.ext'
    simp only [Array.toList_extract]
    apply List.ext_getElem?
    intro j
    simp only [K.size] at hle
    rw [List.extract_eq_take_drop]
    simp only [List.getElem?_take, List.getElem?_drop, List.getElem?_map]
    by_cases hj : j < n
    · have : off + j < vs.length := by omega
      simp [hj, List.getD, List.getElem?_eq_getElem this]
    · simp [hj]
theorem inR_spec {n : Int} {len j : Nat} (h : inR n len = some j) : 0 ≤ n ∧ n < len ∧ j = n.toNat ∧ j < len := by
  unfold inR at h
  split at h
  · cases h; omega
  · cases h
theorem run_indexAt_arr {t e : TypeId} {n : Nat} {k : K} (hu : P.underlying t = some (.array n e)) (hk : kq P e = some k) {i : Int} {j : Nat} (hj : inR i n = some j) (ki : IntKind) (blk off : Nat) (w : World) :
    (Instr.indexAt t (.pointer (some ⟨blk, off, none⟩)) (.int ki i)).run P w = .ok (.pointer (some ⟨blk, off + j * k.size, none⟩)) w := by
  obtain ⟨h1, h2, h3, h4⟩ := inR_spec hj
  subst h3
  simp [Instr.indexAt, asIntOf, run_und hu, Instr.sureAddr, h1, h2, run_sizeK hk, add_at]
theorem run_indexAt_slice {t e : TypeId} {k : K} (hu : P.underlying t = some (.slice e)) (hk : kq P e = some k) {i : Int} {len j cap : Nat} (hj : inR i len = some j) (ki : IntKind) (blk off : Nat) (w : World) :
    (Instr.indexAt t (.slice (some ⟨blk, off, none⟩) len cap) (.int ki i)).run P w = .ok (.pointer (some ⟨blk, off + j * k.size, none⟩)) w := by
  obtain ⟨h1, h2, h3, h4⟩ := inR_spec hj
  subst h3
  simp [Instr.indexAt, asIntOf, run_und hu, h1, h2, run_sizeK hk, add_at]
theorem iaddr_sound (hH : HOK C B w S β H) {t e : TypeId} {k : K} (hu : P.underlying t = some (.slice e)) (hk : kq P e = some k) {x i v : PV} {ux ui : Value}
    (hx : RelV C w S β x ux) (hi : RelV C w S β i ui) (h : iaddr H k x i = some v) :
    ∃ u, (Instr.indexAt t ux ui).run P w = .ok u w ∧ RelV C w S β v u := by
  unfold iaddr at h
  split at h
  · cases h
  · rename_i n hn
    obtain ⟨ki, rfl⟩ := asI_rel hi hn
    split at h
    · rename_i k' es tt
      split at h
      · rename_i j hj
        split at h
        · rename_i e' he
          split at h
          · rename_i hke
            have := K.eq_spec hke
            subst this
            cases h
            obtain ⟨hjl, rfl⟩ := List.getElem?_eq_some_iff.1 he
            cases hx with
            | d _ _ hx =>
            cases hx with
            | l _ _ _ a cap blk off c h1 h2 h3 h4 h5 =>
            have := h3 (by omega)
            subst this
            refine ⟨_, run_indexAt_slice hu hk hj ki blk off w, ?_⟩
            exact .q _ _ 0 blk (off + j * k.size) (c j) (h4 j hjl) (h5 j hjl)
          · cases h
        · cases h
      · cases h
    · rename_i o k' off len tt
      split at h
      · rename_i j k'' ro es hj ho
        split at h
        · rename_i hc
          simp only [Bool.and_eq_true, decide_eq_true_eq] at hc
          obtain ⟨⟨hk1, hk2⟩, hle⟩ := hc
          have := K.eq_spec hk1
          subst this
          cases h
          obtain ⟨-, -, -, hjl⟩ := inR_spec hj
          cases hx with
          | r _ _ _ _ _ _ h0 hx =>
          unfold RelRf at hx
          split at hx
          · exact hx.elim
          · rename_i hb; rw [hH.dead o hb] at ho; cases ho
          · omega
          · rename_i blk base k3 hb
            obtain ⟨h1, cap, a, h2, h2', h3, h4, h5⟩ := hx
            subst h1
            subst h2
            have := h2' (by omega)
            subst this
            refine ⟨_, run_indexAt_slice hu hk hj ki blk _ w, .p _ _ _ _ rfl ?_⟩
            unfold RelPt
            rw [hb]
            simp only [Nat.add_mul, Nat.add_assoc, Nat.add_zero]
        · cases h
      · cases h
    · cases h
/-- An optional operand and its value. -/
def RelO (C : Cx) (w : World) (S : Stab) (β : Pl) : Option PV → Option Value → Prop
  | none, none => True
  | some x, some u => RelV C w S β x u
  | _, _ => False
theorem run_sliceBound {x : PV} {u : Value} (hx : RelV C w S β x u) {d top m : Nat} (h : bnd d top (some x) = some m) {y : Nat} (hy : top ≤ y) (code : BoundsCode) :
    (Instr.sliceBound u y code).run P w = .ok m w ∧ m ≤ top := by
  simp only [bnd] at h
  split at h
  · rename_i n hn
    obtain ⟨k, rfl⟩ := asI_rel hx hn
    split at h
    · rename_i hc
      cases h
      have : 0 ≤ n ∧ n ≤ (y : Int) := by omega
      refine ⟨by simp [Instr.sliceBound, asIntOf, this], by omega⟩
    · cases h
  · cases h
theorem run_bounds {isS : Bool} {lo hi mx : Option PV} {ulo uhi umx : Option Value} (h1 : RelO C w S β lo ulo) (h2 : RelO C w S β hi uhi) (h3 : RelO C w S β mx umx) (hmh : (mx.isSome && hi.isNone) = false)
    {len cap m h l : Nat} (hlc : len ≤ cap) (hm : bnd len len mx = some m) (hh : bnd m m hi = some h) (hl : bnd 0 h lo = some l) :
    ∃ m', (Instr.sliceBounds isS len cap ulo uhi umx).run P w = .ok (l, h, m') w ∧ l ≤ h ∧ h ≤ len ∧ h ≤ m' ∧ m' ≤ cap ∧ (mx.isSome = true → m' = m) ∧ (mx.isSome = false → m' = cap ∧ m = len) := by
  cases mx with
  | none =>
    cases umx with
    | some _ => exact h3.elim
    | none =>
    simp only [bnd, Option.some.injEq] at hm
    subst hm
    cases hi with
    | none =>
      cases uhi with
      | some _ => exact h2.elim
      | none =>
      simp only [bnd, Option.some.injEq] at hh
      subst hh
      cases lo with
      | none =>
        cases ulo with
        | some _ => exact h1.elim
        | none =>
        simp only [bnd, Option.some.injEq] at hl
        subst hl
        exact ⟨cap, by simp [Instr.sliceBounds], by simp; omega⟩
      | some x =>
        cases ulo with
        | none => exact h1.elim
        | some u =>
        obtain ⟨e, he⟩ := run_sliceBound (P := P) h1 hl (Nat.le_refl len) .sliceB
        exact ⟨cap, by simp [Instr.sliceBounds, e], by simp; omega⟩
    | some y =>
      cases uhi with
      | none => exact h2.elim
      | some uy =>
      obtain ⟨e1, he1⟩ := run_sliceBound (P := P) h2 hh hlc (if isS then .sliceAcap else .sliceAlen)
      cases lo with
      | none =>
        cases ulo with
        | some _ => exact h1.elim
        | none =>
        simp only [bnd, Option.some.injEq] at hl
        subst hl
        exact ⟨cap, by simp [Instr.sliceBounds, e1], by simp; omega⟩
      | some x =>
        cases ulo with
        | none => exact h1.elim
        | some u =>
        obtain ⟨e, he⟩ := run_sliceBound (P := P) h1 hl (Nat.le_refl h) .sliceB
        exact ⟨cap, by simp [Instr.sliceBounds, e, e1], by simp; omega⟩
  | some z =>
    cases umx with
    | none => exact h3.elim
    | some uz =>
    obtain ⟨e0, he0⟩ := run_sliceBound (P := P) h3 hm hlc (if isS then .slice3Acap else .slice3Alen)
    cases hi with
    | none => simp at hmh
    | some y =>
      cases uhi with
      | none => exact h2.elim
      | some uy =>
      obtain ⟨e1, he1⟩ := run_sliceBound (P := P) h2 hh (Nat.le_refl m) .slice3B
      cases lo with
      | none =>
        cases ulo with
        | some _ => exact h1.elim
        | none =>
        simp only [bnd, Option.some.injEq] at hl
        subst hl
        exact ⟨m, by simp [Instr.sliceBounds, e0, e1], by simp; omega⟩
      | some x =>
        cases ulo with
        | none => exact h1.elim
        | some u =>
        obtain ⟨e, he⟩ := run_sliceBound (P := P) h1 hl (Nat.le_refl h) .slice3C
        exact ⟨m, by simp [Instr.sliceBounds, e0, e, e1], by simp; omega⟩
theorem sl_sound (hH : HOK C B w S β H) {t e : TypeId} {k : K} (hu : P.underlying t = some (.slice e)) (hk : kq P e = some k) {x v : PV} {ux : Value} {lo hi mx : Option PV} {ulo uhi umx : Option Value}
    (hx : RelV C w S β x ux) (h1 : RelO C w S β lo ulo) (h2 : RelO C w S β hi uhi) (h3 : RelO C w S β mx umx) (hmh : (mx.isSome && hi.isNone) = false) (h : slA H k x lo hi mx = some v) :
    ∃ u, (Instr.sliceAt t ux ulo uhi umx).run P w = .ok u w ∧ RelV C w S β v u := by
  have hs : ∀ (a : Option Addr) (len cap l h m' : Nat), (Instr.sliceBounds true len cap ulo uhi umx).run P w = .ok (l, h, m') w →
      (Instr.sliceAt t (.slice a len cap) ulo uhi umx).run P w = .ok (.slice (if m' = l then a else a.map (·.add (l * k.size))) (h - l) (m' - l)) w := by
    intro a len cap l h m' hb
    simp [Instr.sliceAt, run_und hu, Instr.slice, hb, run_sizeK hk]
  unfold slA at h
  split at h
  · rename_i k' es tt
    split at h
    · rename_i hke
      split at h
      · rename_i m hm
        split at h
        · rename_i hh hhh
          split at h
          · rename_i l hl
            cases h
            cases hx with
            | d _ _ hx =>
            cases hx with
            | l _ _ _ a cap blk off c c1 c2 c3 c4 c5 =>
            obtain ⟨m', hb, b1, b2, b3, b4, b5, b6⟩ := run_bounds (P := P) (isS := true) h1 h2 h3 hmh c1 hm hhh hl
            refine ⟨_, hs a es.length cap l hh m' hb, .d _ _ ?_⟩
            have hlen : ((es.take hh).drop l).length = hh - l := by simp; omega
            rw [← hlen]
            have hkk : 0 < ((es.take hh).drop l).length → k' = k := by
              intro h0
              rcases Bool.or_eq_true _ _ ▸ hke with hq | hq
              · exact (K.eq_spec hq).symm
              · simp at hq; subst hq; simp at h0
            refine .l k _ _ _ _ blk (off + l * k.size) (fun j => c (l + j)) (by omega) ?_ ?_ ?_ ?_
            · intro ht
              cases hmx : mx.isSome with
              | true => simp [hmx] at ht; have := b5 hmx; omega
              | false =>
                simp [hmx] at ht
                obtain ⟨b7, b8⟩ := b6 hmx
                have := c2 ht.1
                omega
            · intro h0
              have : ¬ m' = l := by omega
              rw [if_neg this, c3 (by omega)]
              simp [add_at]
            · intro j hj
              have hk' := hkk (by omega)
              subst hk'
              have := c4 (l + j) (by omega)
              have e : off + l * k'.size + j * k'.size = off + (l + j) * k'.size := by rw [Nat.add_mul]; omega
              rw [e]
              exact this
            · intro j hj
              have hk' := hkk (by omega)
              subst hk'
              have := c5 (l + j) (by omega)
              simpa [List.getElem_drop, List.getElem_take] using this
          · cases h
        · cases h
      · cases h
    · cases h
  · rename_i o k' off len tt
    split at h
    · rename_i k'' ro es ho
      split at h
      · rename_i hc
        simp only [Bool.and_eq_true, decide_eq_true_eq] at hc
        obtain ⟨hk1, hle⟩ := hc
        have := K.eq_spec hk1
        subst this
        split at h
        · rename_i m hm
          split at h
          · rename_i hh hhh
            split at h
            · rename_i l hl
              cases h
              cases hx with
              | r _ _ _ _ _ _ h0 hx =>
              unfold RelRf at hx
              split at hx
              · exact hx.elim
              · rename_i hb; rw [hH.dead o hb] at ho; cases ho
              · rename_i hb
                obtain ⟨z1, z2, a, rfl⟩ := hx
                subst z1 z2
                obtain ⟨m', hbb, b1, b2, b3, b4, b5, b6⟩ := run_bounds (P := P) (isS := true) h1 h2 h3 hmh (Nat.le_refl 0) hm hhh hl
                refine ⟨_, hs a 0 0 l hh m' hbb, .r _ _ _ _ _ _ rfl ?_⟩
                unfold RelRf
                rw [hb]
                have e1 : l = 0 := by omega
                have e2 : hh = 0 := by omega
                have e3 : m' = 0 := by omega
                subst e1 e2 e3
                exact ⟨rfl, rfl, a, by simp⟩
              · rename_i blk base k3 hb
                obtain ⟨e1, cap, a, rfl, e2, e3, e4, e', n, e5, e6⟩ := hx
                subst e1
                obtain ⟨m', hbb, b1, b2, b3, b4, b5, b6⟩ := run_bounds (P := P) (isS := true) h1 h2 h3 hmh e3 hm hhh hl
                refine ⟨_, hs (some a) len cap l hh m' hbb, ?_⟩
                have hval : (.slice (if m' = l then some a else (some a).map (·.add (l * k3.size))) (hh - l) (m' - l) : Value) = .slice (some (if m' = l then a else a.add (l * k3.size))) (hh - l) (m' - l) := by
                  split <;> rfl
                rw [hval]
                refine .r _ _ _ _ _ _ rfl ?_
                unfold RelRf
                rw [hb]
                refine ⟨rfl, m' - l, _, rfl, ?_, by omega, ?_, e', n, e5, ?_⟩
                · intro h0
                  have : ¬ m' = l := by omega
                  rw [if_neg this, e2 (by omega), add_at, Nat.add_mul, Nat.add_assoc]
                · intro ht
                  cases hmx : mx.isSome with
                  | true => simp [hmx] at ht; have := b5 hmx; omega
                  | false =>
                    simp [hmx] at ht
                    obtain ⟨b7, b8⟩ := b6 hmx
                    have := e4 ht.1
                    omega
                · refine Nat.le_trans (Nat.add_le_add_left (Nat.mul_le_mul_right _ ?_) _) e6
                  omega
            · cases h
          · cases h
        · cases h
      · cases h
    · cases h
  · cases h
theorem lenA_rel (hH : HOK C B w S β H) {str : Bool} {x : PV} {u : Value} {n : Nat} (hx : RelV C w S β x u) (h : lenA H str x = some n) :
    (str = false ∧ ∃ a cap, u = .slice a n cap) ∨ (str = true ∧ ∃ s : ByteArray, u = .string s ∧ s.size = n) := by
  unfold lenA at h
  split at h
  · split at h
    · cases h
    · cases h
      cases hx with
      | d _ _ hx =>
      cases hx with
      | l => exact .inl ⟨by cases str <;> simp_all, _, _, rfl⟩
  · rename_i o k off len t
    split at h
    · cases h
    · rename_i hst
      split at h
      · rename_i ho
        split at h
        · cases h
          cases hx with
          | r _ _ _ _ _ _ h0 hx =>
          refine .inl ⟨by simpa using hst, ?_⟩
          unfold RelRf at hx
          split at hx
          · exact hx.elim
          · rename_i hb; rw [hH.dead o hb] at ho; cases ho
          · obtain ⟨-, rfl, a, rfl⟩ := hx; exact ⟨_, _, rfl⟩
          · obtain ⟨-, cap, a, rfl, -⟩ := hx; exact ⟨_, _, rfl⟩
        · cases h
      · cases h
  · split at h
    · cases h
      cases hx with
      | d _ _ hx =>
      cases hx with
      | s _ x hx => exact .inr ⟨by assumption, x, rfl, by rw [← hx]; simp⟩
    · cases h
  · cases h
theorem binA_rel {op : BinOp} {t : TypeId} {x y : PV} {ux uy : Value} {d : DV} (hx : RelV C w S β x ux) (hy : RelV C w S β y uy) (h : binA op x y = some d) (ox oy : Operand) :
    ∃ u, (eqGuard op t ox oy ux uy).run P w = .ok () w ∧ (binOp op t ux uy).run P w = .ok u w ∧ RelD w S d u := by
  have hg : ∀ (a b : Value), ((∃ k n, a = .int k n) ∨ ∃ s, a = .string s) → (eqGuard op t ox oy a b).run P w = .ok () w := by
    intro a b h1
    rcases h1 with ⟨k, n, rfl⟩ | ⟨s, rfl⟩
    · cases op <;> simp [eqGuard]
    · cases op <;> simp [eqGuard]
  unfold binA at h
  split at h
  · rename_i k a k' b
    cases hx with
    | d _ _ hx =>
    cases hx
    cases hy with
    | d _ _ hy =>
    cases hy
    refine Exists.elim (?_ : ∃ u, (binOp op t (.int k a) (.int k' b)).run P w = .ok u w ∧ RelD w S d u) fun u hu => ⟨u, hg _ _ (.inl ⟨_, _, rfl⟩), hu⟩
    have hshift : ∀ op, (op = .shl ∨ op = .shr) → shiftI op k a b = some d → ∃ u, (binOp op t (.int k a) (.int k' b)).run P w = .ok u w ∧ RelD w S d u := by
      intro op hop h
      unfold shiftI at h
      split at h
      · cases h
      · rename_i hb
        rcases hop with rfl | rfl
        · simp only [Option.some.injEq] at h; subst h; exact ⟨_, by simp [binOp, Op.shift, hb], .i _ _⟩
        · simp only [Option.some.injEq] at h; subst h; exact ⟨_, by simp [binOp, Op.shift, hb], .i _ _⟩
    split at h
    · exact hshift _ (.inl rfl) h
    · exact hshift _ (.inr rfl) h
    · split at h
      · rename_i hk
        subst hk
        unfold binI at h
        split at h <;> first
          | (cases h; refine ⟨_, ?_, .i _ _⟩; simp [binOp, Op.intArith, Op.intBits]; done)
          | (cases h; refine ⟨_, ?_, .b _⟩; simp [binOp, Op.intCmp]; done)
          | (split at h
             · cases h
             · rename_i hz; cases h; refine ⟨_, ?_, .i _ _⟩; simp [binOp, Op.intDiv, hz])
          | cases h
      · cases h
  · rename_i a b
    cases hx with
    | d _ _ hx =>
    cases hx with
    | s _ sa hsa =>
    cases hy with
    | d _ _ hy =>
    cases hy with
    | s _ sb hsb =>
    refine Exists.elim (?_ : ∃ u, (binOp op t (.string sa) (.string sb)).run P w = .ok u w ∧ RelD w S d u) fun u hu => ⟨u, hg _ _ (.inr ⟨_, rfl⟩), hu⟩
    subst hsa hsb
    unfold binS at h
    split at h <;> first
      | (cases h; refine ⟨_, ?_, .b _⟩; simp [binOp, Op.stringOp, ByteArray.toList_eq]; done)
      | skip
    · split at h
      · rename_i hle
        cases h
        refine ⟨.string (sa ++ sb), ?_, .s _ _ (by simp [ByteArray.data_append])⟩
        have : ¬ (((sa.size + sb.size : Nat) : Int) > IntKind.i64.max) := by
          have e1 : sa.size = sa.data.toList.length := by simp
          have e2 : sb.size = sb.data.toList.length := by simp
          have : IntKind.i64.max = 9223372036854775807 := by decide
          rw [this, e1, e2]; omega
        simp only [binOp, Op.stringOp, Sem.run_ite]
        rw [if_neg this]; rfl
      · cases h
    · cases h
  · cases h
theorem unA_rel {op : UnOp} {x : PV} {ux : Value} {d : DV} (hx : RelV C w S β x ux) (h : unA op x = some d) :
    ∃ u, (Op.unary op ux).run P w = .ok u w ∧ RelD w S d u := by
  unfold unA at h
  split at h
  · cases hx with
    | d _ _ hx =>
    cases hx
    split at h
    · cases h; exact ⟨_, by simp [Op.unary, Op.intArith], .i _ _⟩
    · cases h; exact ⟨_, by simp [Op.unary, Op.intBits], .i _ _⟩
    · cases h
  · cases hx with
    | d _ _ hx =>
    cases hx
    split at h
    · cases h; exact ⟨_, by simp [Op.unary], .b _⟩
    · cases h
  · cases h
theorem idxS_rel {t : TypeId} (hu : P.underlying t = some .string) {x i : PV} {ux ui : Value} {s : List UInt8} {n : Int} {b : UInt8} (hx : RelV C w S β x ux) (hi : RelV C w S β i ui)
    (hs : x = .d (.s s)) (hn : asI i = some n) (h0 : 0 ≤ n) (hb : s[n.toNat]? = some b) : (Instr.index t ux ui).run P w = .ok (.int .u8 b.toNat) w := by
  subst hs
  obtain ⟨k, rfl⟩ := asI_rel hi hn
  cases hx with
  | d _ _ hx =>
  cases hx with
  | s _ x hx =>
  subst hx
  have : x[n.toNat]? = some b := by
    obtain ⟨hj, e⟩ := List.getElem?_eq_some_iff.1 hb
    have hj' : n.toNat < x.size := by simpa using hj
    rw [getElem?_pos x n.toNat hj']
    rw [← e]
    simp [ByteArray.getElem_eq_getElem_data]
  simp [Instr.index, asIntOf, run_und hu, h0, this]
theorem slS_rel {t : TypeId} (hu : P.underlying t = some .string) {s : List UInt8} {ux : Value} {lo hi : Option PV} {ulo uhi : Option Value} {h l : Nat}
    (hx : RelV C w S β (.d (.s s)) ux) (h1 : RelO C w S β lo ulo) (h2 : RelO C w S β hi uhi) (hh : bnd s.length s.length hi = some h) (hl : bnd 0 h lo = some l) :
    ∃ u, (Instr.sliceAt t ux ulo uhi none).run P w = .ok u w ∧ RelD w S (.s ((s.take h).drop l)) u := by
  cases hx with
  | d _ _ hx =>
  cases hx with
  | s _ x hx =>
  subst hx
  have hsz : x.size = x.data.toList.length := by simp
  obtain ⟨m', hb, b1, b2, b3, b4, b5, b6⟩ := run_bounds (P := P) (isS := false) (mx := none) (umx := none) (len := x.data.toList.length) (cap := x.data.toList.length) h1 h2 trivial (by simp) (Nat.le_refl _) rfl hh hl
  rw [← hsz] at hb
  refine ⟨.string (x.extract l h), by simp [Instr.sliceAt, run_und hu, Instr.slice, hb], .s _ _ ?_⟩
  rw [ByteArray.data_extract, Array.toList_extract, List.extract_eq_take_drop, List.drop_take]
theorem mm2_rel {mx : Bool} {x y z : PV} {ux uy : Value} (hx : RelV C w S β x ux) (hy : RelV C w S β y uy) (h : mm2 mx x y = some z) :
    ∃ u, ((if mx then Builtin.max2 ux uy else Builtin.min2 ux uy)).run P w = .ok u w ∧ RelV C w S β z u := by
  unfold mm2 at h
  split at h
  · split at h
    · rename_i hk
      subst hk
      cases h
      cases hx with
      | d _ _ hx =>
      cases hx
      cases hy with
      | d _ _ hy =>
      cases hy
      cases mx
      · exact ⟨_, by simp [Builtin.min2], .d _ _ (.i _ _)⟩
      · exact ⟨_, by simp [Builtin.max2], .d _ _ (.i _ _)⟩
    · cases h
  · cases h
/-! Structs, compared. -/
theorem eqL_append : ∀ {a b : List Nat} {xs ys : List DV} {e : Bool}, eqL (a ++ b) xs ys = some e → ∃ x1 x2 y1 y2 e1 e2, xs = x1 ++ x2 ∧ ys = y1 ++ y2 ∧ eqL a x1 y1 = some e1 ∧ eqL b x2 y2 = some e2 ∧ e = (e1 && e2)
  | [], b, xs, ys, e, h => ⟨[], xs, [], ys, true, e, rfl, rfl, rfl, h, by simp⟩
  | k :: a, b, [], ys, e, h => by simp [eqL] at h
  | k :: a, b, x :: xs, [], e, h => by simp [eqL] at h
  | k :: a, b, x :: xs, y :: ys, e, h => by
    simp only [List.cons_append, eqL] at h
    split at h
    · rename_i e0 r h1 h2
      obtain ⟨x1, x2, y1, y2, e1, e2, rfl, rfl, q1, q2, q3⟩ := eqL_append h2
      cases h
      exact ⟨x :: x1, x2, y :: y1, y2, e0 && e1, e2, rfl, rfl, by simp [eqL, h1, q1], q2, by rw [q3, Bool.and_assoc]⟩
    · cases h
theorem eqL_length : ∀ {ks : List Nat} {xs ys : List DV} {e : Bool}, eqL ks xs ys = some e → xs.length = ks.length ∧ ys.length = ks.length
  | [], [], [], _, _ => ⟨rfl, rfl⟩
  | [], [], _ :: _, _, h => by simp [eqL] at h
  | [], _ :: _, _, _, h => by simp [eqL] at h
  | _ :: _, [], _, _, h => by simp [eqL] at h
  | _ :: _, _ :: _, [], _, h => by simp [eqL] at h
  | k :: ks, x :: xs, y :: ys, e, h => by
    simp only [eqL] at h
    split at h
    · rename_i h2
      have := eqL_length h2
      simp [this.1, this.2]
    · cases h
theorem eqTile_length {rec : TypeId → Option (List Nat)} (hr : ∀ t ks, rec t = some ks → ks.length = P.cellsOf t) : ∀ {fs : List Field} {off n : Nat} {ks : List Nat}, eqTile P rec fs off n = some ks → off + ks.length = n
  | [], off, n, ks, h => by
    simp only [eqTile] at h
    split at h
    · cases h; simpa using ‹off = n›
    · cases h
  | f :: fs, off, n, ks, h => by
    simp only [eqTile] at h
    split at h
    · cases h
    · obtain ⟨a, ha, h⟩ := Option.bind_eq_some_iff.1 h
      obtain ⟨b, hb, h⟩ := Option.bind_eq_some_iff.1 h
      cases h
      have h1 := hr _ _ ha
      have h2 := eqTile_length hr hb
      simp only [List.length_append]; omega
theorem eqKs_length : ∀ {d : Nat} {t : TypeId} {ks : List Nat}, eqKs P d t = some ks → ks.length = P.cellsOf t
  | 0, t, ks, h => by cases h
  | d + 1, t, ks, h => by
    simp only [eqKs] at h
    split at h
    · split at h
      · cases h; simp [*]
      · cases h
    · split at h
      · cases h; simp [*]
      · cases h
    · split at h
      · cases h; simp [*]
      · cases h
    · split at h
      · cases h
      · have := eqTile_length (rec := eqKs P d) (fun t ks h => eqKs_length h) h; omega
    · cases h
theorem eqKs_kq {d : Nat} {t : TypeId} {ks : List Nat} (h : eqKs P d t = some ks) : ∃ k, kq P t = some k := by
  cases d with
  | zero => cases h
  | succ d =>
    simp only [eqKs] at h
    split at h
    · rename_i hu
      split at h
      · rename_i hc; exact ⟨none, by simp [kq, hu, hc]⟩
      · cases h
    · rename_i hu
      split at h
      · rename_i hc; exact ⟨none, by simp [kq, hu, hc]⟩
      · cases h
    · rename_i hu
      split at h
      · rename_i hc; exact ⟨none, by simp [kq, hu, hc]⟩
      · cases h
    · rename_i hu
      exact ⟨some (P.cellsOf t), by simp only [kq, hu]⟩
    · cases h
theorem eqFields_sound {d m n : Nat} (ih : ∀ (t : TypeId) (ks : List Nat), eqKs P d t = some ks → ∀ (k : K), kq P t = some k → ∀ (c c' : Nat → Value) (xs ys : List DV) (e : Bool), eqL ks xs ys = some e → (∀ j (h : j < xs.length), RelD w S xs[j] (c j)) → (∀ j (h : j < ys.length), RelD w S ys[j] (c' j)) →
      (Op.equalIn m t (mkV k c) (mkV k c')).run P w = .ok e w) (c c' : Nat → Value) : ∀ (fs : List Field) (off : Nat) (ks : List Nat), eqTile P (eqKs P d) fs off n = some ks → ∀ (xs ys : List DV) (e : Bool), eqL ks xs ys = some e → (∀ j (h : j < xs.length), RelD w S xs[j] (c (off + j))) → (∀ j (h : j < ys.length), RelD w S ys[j] (c' (off + j))) →
    (Op.eqFields m ((List.range n).map c).toArray ((List.range n).map c').toArray fs).run P w = .ok e w
  | [], off, ks, ht, xs, ys, e, he, hx, hy => by
    simp only [eqTile] at ht
    split at ht
    · cases ht
      cases xs with
      | nil =>
        cases ys with
        | nil => simp only [eqL, Option.some.injEq] at he; subst he; simp [Op.eqFields]
        | cons _ _ => simp [eqL] at he
      | cons _ _ => simp [eqL] at he
    · cases ht
  | f :: fs, off, ks, ht, xs, ys, e, he, hx, hy => by
    have hall := eqTile_length (rec := eqKs P d) (fun t ks h => eqKs_length h) ht
    simp only [eqTile] at ht
    split at ht
    · cases ht
    · rename_i hn
      obtain ⟨a, ha, ht⟩ := Option.bind_eq_some_iff.1 ht
      obtain ⟨b, hb, ht⟩ := Option.bind_eq_some_iff.1 ht
      cases ht
      have hn1 : f.name ≠ "_" := fun h => hn (.inl h)
      have hn2 : f.offset = off := Classical.byContradiction fun h => hn (.inr h)
      obtain ⟨x1, x2, y1, y2, e1, e2, rfl, rfl, q1, q2, rfl⟩ := eqL_append he
      obtain ⟨k, hk⟩ := eqKs_kq ha
      have hal := eqKs_length ha
      have hks := kq_size hk
      have hlx := eqL_length q1
      have hle : f.offset + k.size ≤ n := by
        simp only [List.length_append] at hall; omega
      simp only [List.length_append] at hall
      simp only [Op.eqFields, hn1, ne_eq, not_false_eq_true, if_true, Sem.run_bind, run_part hk (vs := (List.range n).map c) (by simpa using hle), run_part hk (vs := (List.range n).map c') (by simpa using hle), Result.andThen_ok]
      have hg : ∀ (c : Nat → Value) j, j < a.length → ((List.range n).map c).getD (f.offset + j) undef = c (off + j) := by
        intro c j hj
        rw [List.getD, List.getElem?_map, List.getElem?_range (by omega), hn2]; rfl
      have h1 := ih f.type a ha k hk (fun m => ((List.range n).map c).getD (f.offset + m) undef) (fun m => ((List.range n).map c').getD (f.offset + m) undef) x1 y1 e1 q1 (fun j hj => by
        rw [hg c j (by omega)]
        have := hx j (by simp; omega)
        rwa [List.getElem_append_left hj] at this) (fun j hj => by
        rw [hg c' j (by omega)]
        have := hy j (by simp; omega)
        rwa [List.getElem_append_left hj] at this)
      rw [h1]
      simp only [Result.andThen_ok]
      cases e1 with
      | false => simp
      | true =>
        simp only [Bool.not_true, Bool.false_eq_true, if_false, Bool.true_and]
        refine eqFields_sound ih c c' fs _ b hb x2 y2 e2 q2 ?_ ?_
        · intro j hj
          have := hx (x1.length + j) (by simp; omega)
          rw [List.getElem_append_right (by omega)] at this
          have e3 : off + P.cellsOf f.type + j = off + (x1.length + j) := by omega
          rw [e3]
          simpa using this
        · intro j hj
          have := hy (y1.length + j) (by simp; omega)
          rw [List.getElem_append_right (by omega)] at this
          have e3 : off + P.cellsOf f.type + j = off + (y1.length + j) := by omega
          rw [e3]
          simpa using this
theorem eq_sound : ∀ (d m : Nat), d ≤ m → ∀ (t : TypeId) (ks : List Nat), eqKs P d t = some ks → ∀ (k : K), kq P t = some k → ∀ (c c' : Nat → Value) (xs ys : List DV) (e : Bool), eqL ks xs ys = some e → (∀ j (h : j < xs.length), RelD w S xs[j] (c j)) → (∀ j (h : j < ys.length), RelD w S ys[j] (c' j)) →
      (Op.equalIn m t (mkV k c) (mkV k c')).run P w = .ok e w
  | 0, m, _, t, ks, h => by cases h
  | d + 1, 0, hm, _, _, _ => absurd hm (Nat.not_succ_le_zero _)
  | d + 1, m + 1, hm, t, ks, h => by
    intro k hk c c' xs ys e he hx hy
    have hall := eqKs_length h
    have hleaf : ∀ n, ks = [n] → ∃ x y, xs = [x] ∧ ys = [y] ∧ eqK n x y = some e := by
      rintro n rfl
      obtain ⟨l1, l2⟩ := eqL_length he
      match xs, ys, l1, l2 with
      | [x], [y], _, _ =>
        refine ⟨x, y, rfl, rfl, ?_⟩
        simp only [eqL] at he
        split at he
        · rename_i e0 r h1 h2
          cases h2
          simp only [Bool.and_true] at he
          rw [← he]; exact h1
        · cases he
    simp only [eqKs] at h
    split at h
    · rename_i hu
      split at h
      · rename_i hc
        cases h
        obtain ⟨x, y, rfl, rfl, hxy⟩ := hleaf _ rfl
        have hkn : k = none := by simp [kq, hu, hc] at hk; exact hk.symm
        subst hkn
        have h1 := hx 0 (by simp)
        have h2 := hy 0 (by simp)
        simp only [List.getElem_cons_zero] at h1 h2
        simp only [mkV]
        unfold eqK at hxy
        split at hxy
        · rename_i h0; cases h0
        · generalize c 0 = u at *
          generalize c' 0 = u' at *
          cases h1; cases h2
          simp only [Option.some.injEq] at hxy; subst hxy
          exact run_equalIn_bool' w _ _ _ _ hu
        · rename_i h0; cases h0
        · cases hxy
      · cases h
    · rename_i hu
      split at h
      · rename_i hc
        cases h
        obtain ⟨x, y, rfl, rfl, hxy⟩ := hleaf _ rfl
        have hkn : k = none := by simp [kq, hu, hc] at hk; exact hk.symm
        subst hkn
        have h1 := hx 0 (by simp)
        have h2 := hy 0 (by simp)
        simp only [List.getElem_cons_zero] at h1 h2
        simp only [mkV]
        unfold eqK at hxy
        split at hxy
        · generalize c 0 = u at *
          generalize c' 0 = u' at *
          cases h1; cases h2
          split at hxy
          · rename_i hkk
            subst hkk
            simp only [Option.some.injEq] at hxy; subst hxy
            exact run_equalIn_int w _ _ _ _ _ _ hu
          · cases hxy
        · rename_i h0; cases h0
        · rename_i h0; cases h0
        · cases hxy
      · cases h
    · rename_i hu
      split at h
      · rename_i hc
        cases h
        obtain ⟨x, y, rfl, rfl, hxy⟩ := hleaf _ rfl
        have hkn : k = none := by simp [kq, hu, hc] at hk; exact hk.symm
        subst hkn
        have h1 := hx 0 (by simp)
        have h2 := hy 0 (by simp)
        simp only [List.getElem_cons_zero] at h1 h2
        simp only [mkV]
        unfold eqK at hxy
        split at hxy
        · rename_i h0; cases h0
        · rename_i h0; cases h0
        · generalize c 0 = u at *
          generalize c' 0 = u' at *
          cases h1 with
          | s _ b hb =>
          cases h2 with
          | s _ b' hb' =>
          simp only [Option.some.injEq] at hxy; subst hxy
          rw [run_equalIn_string w _ _ _ _ hu, ByteArray.toList_eq, ByteArray.toList_eq, hb, hb']
        · cases hxy
      · cases h
    · rename_i fs hu
      split at h
      · cases h
      · rename_i hst
        have hst' : P.stoodInHeld t = false := by simpa using hst
        have hfo : P.fieldsOf t = fs := by simp [Program.fieldsOf, hu]
        have hkn : k = some (P.cellsOf t) := by simp [kq, hu] at hk; exact hk.symm
        subst hkn
        simp only [mkV]
        rw [run_equalIn_agg w m t _ _ (by rw [hfo]; exact hu) hst', hfo]
        refine eqFields_sound (d := d) (fun t ks h => eq_sound d m (by omega) t ks h) c c' fs.toList 0 ks h xs ys e he ?_ ?_
        · intro j hj; rw [Nat.zero_add]; exact hx j hj
        · intro j hj; rw [Nat.zero_add]; exact hy j hj
    · cases h
/-- Two structs, compared. -/
theorem eqA_rel {t : TypeId} {fs : Array Field} (hu : P.underlying t = some (.struct fs)) {ks : List Nat} (hks : eqKs P 8 t = some ks) (hm : P.eqGuardType P.depth t = false) {x y : PV} {ux uy : Value} (hx : RelV C w S β x ux) (hy : RelV C w S β y uy) {e : Bool} (h : eqA ks x y = some e) (ox oy : Operand) (op : BinOp) (hop : op = .eql ∨ op = .neq) :
    (eqGuard op t ox oy ux uy).run P w = .ok () w ∧ (binOp op t ux uy).run P w = .ok (.bool (if op == .neq then !e else e)) w := by
  unfold eqA at h
  split at h
  · rename_i xs ys
    cases hx with
    | d _ _ hx =>
    cases hy with
    | d _ _ hy =>
    cases hx with
    | a _ vs l1 _ r1 =>
    cases hy with
    | a _ us l2 _ r2 =>
    obtain ⟨g1, g2⟩ := eqL_length h
    have hall := eqKs_length hks
    have hk : kq P t = some (some (P.cellsOf t)) := by simp [kq, hu]
    have hmk : ∀ (vs : List Value), vs.length = P.cellsOf t → mkV (some (P.cellsOf t)) (fun j => vs.getD j undef) = .agg vs.toArray := by
      intro vs hv
      simp only [mkV]
      congr 2
      apply List.ext_getElem
      · simp [hv]
      · intro j h1 h2
        simp [List.getD, List.getElem?_eq_getElem h2]
    have heq := eq_sound (P := P) (w := w) (S := S) 8 10000 (by omega) t ks hks _ hk (fun j => vs.getD j undef) (fun j => us.getD j undef) xs ys e h (fun j hj => by
      simp only [List.getD, List.getElem?_eq_getElem (show j < vs.length by omega), Option.getD_some]; exact r1 j hj (by omega)) (fun j hj => by
      simp only [List.getD, List.getElem?_eq_getElem (show j < us.length by omega), Option.getD_some]; exact r2 j hj (by omega))
    rw [hmk vs (by omega), hmk us (by omega)] at heq
    refine ⟨run_eqGuard_agg w op t ox oy _ _ hm, ?_⟩
    rcases hop with rfl | rfl
    · rw [run_eql_struct, heq]; rfl
    · rw [run_neq_struct, heq]; rfl
  · cases h
end
end Go.Sim
