/- Regions, code, functions. -/
import Derived.Test.YtbbboagbgimaaaaDoorCbSimW
import Derived.LoopN
open Go.RowKit
namespace Go.Sim
theorem get_set (t : Nat) (v : PV) (t' : Nat) : ∀ fr : Fr, (fr.set t v).get t' = if t' = t then v else fr.get t'
  | [] => by simp only [Fr.set, Fr.get]; split <;> split <;> simp_all
  | (j, x) :: r => by
    simp only [Fr.set]
    split
    · rename_i h; subst h
      simp only [Fr.get]
      split
      · rename_i h; subst h; simp
      · rename_i h; rw [if_neg (fun e => h e.symm)]
    · split
      · by_cases h : t = t'
        · subst h; simp [Fr.get]
        · rw [if_neg (fun e => h e.symm)]; simp only [Fr.get, h, if_false]
      · rename_i h1 h2
        simp only [Fr.get]
        split
        · rename_i h; subst h; rw [if_neg h1]
        · exact get_set t v t' r
theorem get_drop (l : List Nat) (t : Nat) : ∀ fr : Fr, (fr.drop l).get t = fr.get t ∨ (fr.drop l).get t = .u
  | [] => .inl rfl
  | (j, x) :: r => by
    simp only [Fr.drop]
    split
    · rename_i hc
      rcases get_drop l t r with h | h
      · by_cases hj : j = t
        · subst hj
          right
          have : ∀ r : Fr, (Fr.drop l r).get j = .u := by
            intro r
            induction r with
            | nil => rfl
            | cons p r ih =>
              obtain ⟨i, y⟩ := p
              simp only [Fr.drop]
              split
              · exact ih
              · rename_i hn
                simp only [Fr.get]
                split
                · rename_i hij; subst hij; exact absurd hc hn
                · exact ih
          exact this r
        · left; rw [h]; simp [Fr.get, hj]
      · exact .inr h
    · simp only [Fr.get]
      split
      · exact .inl rfl
      · exact get_drop l t r
theorem get_keep (l : List Nat) (t : Nat) : ∀ fr : Fr, (fr.keep l).get t = fr.get t ∨ (fr.keep l).get t = .u
  | [] => .inl rfl
  | (j, x) :: r => by
    simp only [Fr.keep]
    split
    · simp only [Fr.get]
      split
      · exact .inl rfl
      · exact get_keep l t r
    · rename_i hc
      by_cases hj : j = t
      · subst hj
        right
        have : ∀ r : Fr, (Fr.keep l r).get j = .u := by
          intro r
          induction r with
          | nil => rfl
          | cons p r ih =>
            obtain ⟨i, y⟩ := p
            simp only [Fr.keep]
            split
            · rename_i hn
              simp only [Fr.get]
              split
              · rename_i hij; subst hij; exact absurd hn hc
              · exact ih
            · exact ih
        exact this r
      · rcases get_keep l t r with h | h
        · left; rw [h]; simp [Fr.get, hj]
        · exact .inr h
theorem get_ren (ρ : Nat → Option Nat) (t : Nat) : ∀ fr : Fr, (fr.ren ρ).get t = (fr.get t).ren ρ
  | [] => rfl
  | (j, x) :: r => by
    simp only [Fr.ren, Fr.get]
    split
    · rfl
    · exact get_ren ρ t r
theorem get_ofArgs (t : Nat) : ∀ (args : List PV) (j : Nat), (Fr.ofArgs j args).get t = if j ≤ t then args.getD (t - j) .u else .u
  | [], j => by simp [Fr.ofArgs, Fr.get]
  | v :: r, j => by
    simp only [Fr.ofArgs, Fr.get]
    split
    · rename_i h; subst h; simp
    · rename_i h
      rw [get_ofArgs t r (j + 1)]
      by_cases hj : j ≤ t
      · rw [if_pos hj, if_pos (by omega)]
        have : t - j = (t - (j + 1)) + 1 := by omega
        rw [this]; rfl
      · rw [if_neg hj, if_neg (by omega)]
theorem evalOp_id {E : Env} {ρ : Rand → PV} {H : Heap} {x : IOp} (h : x.adds = false) (i j : Nat) : evalOp E ρ H i x = evalOp E ρ H j x := by
  cases x with
  | call m f args =>
    match m with
    | 0 => rfl
    | 1 => simp [IOp.adds] at h
    | m + 2 => rfl
  | alloc => simp [IOp.adds] at h
  | box => simp [IOp.adds] at h
  | bsl => simp [IOp.adds] at h
  | app => simp [IOp.adds] at h
  | mksl => simp [IOp.adds] at h
  | _ => rfl
section
variable {P : Program} {N : Names} {C : Cx} {w : World} {S : Stab} {β : Pl} {B : Nat} {H : Heap} {a : Act} {E : Env}
/-- What holds between the abstract state and the machine's. -/
structure Inv (P : Program) (N : Names) (C : Cx) (E : Env) (B base nt : Nat) (s : St) (a : Act) (w : World) (S : Stab) (β : Pl) : Prop where
  swf : Swf w S
  gok : GOK N E.G w S
  hB : B ≤ w.heap.size
  hok : HOK C B w S β s.H
  fok : FOK C w S β s.fr a
  size : a.tmps.size = nt
  defers : a.defers = []
  base : base ≤ s.H.length
/-- The objects below base, later. -/
def Lb (base : Nat) (β β' : Pl) : Prop := ∀ o, o < base → (β' o = β o ∨ β' o = .dead ∨ β o = .pend) ∧ (β o = .pend → β' o = .pend)
theorem Lb.refl (base : Nat) (β : Pl) : Lb base β β := fun _ _ => ⟨.inl rfl, fun h => h⟩
theorem Lb.trans {base : Nat} {β β' β'' : Pl} (h : Lb base β β') (k : Lb base β' β'') : Lb base β β'' := fun o ho => by
  refine ⟨?_, fun hp => (k o ho).2 ((h o ho).2 hp)⟩
  rcases (h o ho).1 with h1 | h1 | h1
  · rcases (k o ho).1 with k1 | k1 | k1
    · exact .inl (k1.trans h1)
    · exact .inr (.inl k1)
    · exact .inr (.inr (h1.symm.trans k1))
  · rcases (k o ho).1 with k1 | k1 | k1
    · exact .inr (.inl (k1.trans h1))
    · exact .inr (.inl k1)
    · rw [h1] at k1; cases k1
  · exact .inr (.inr h1)
theorem FOK.ext {w' : World} {S' : Stab} {β' : Pl} {fr : Fr} (h : FOK C w S β fr a) (e : Ext B w S w' S') (hb : Later β β') : FOK C w' S' β' fr a := fun t => (h t).ext e hb
theorem FOK.put {fr : Fr} (h : FOK C w S β fr a) {d : Nat} (hd : d < a.tmps.size) {v : PV} {u : Value} (hv : RelV C w S β v u) : FOK C w S β (fr.set d v) (a.put (some d) u) := by
  intro t
  rw [get_set]
  simp only [Act.put, Array.getD_eq_getD_getElem?]
  split
  · rename_i ht; subst ht
    simpa [hd] using hv
  · rename_i ht
    rw [Array.getElem?_setIfInBounds_ne (fun e => ht e.symm)]
    have := h t
    simpa [Array.getD_eq_getD_getElem?] using this
theorem hok_grow (hH : HOK C B w S β H) (n : Nat) : HOK C B w S β (H ++ List.replicate n none) := by
  have hobj : ∀ o, o < H.length → Heap.obj (H ++ List.replicate n none) o = H.obj o := by
    intro o ho
    simp [Heap.obj, List.getElem?_append_left ho]
  have hlt : ∀ o, β o ≠ .pend → o < H.length := fun o h => by
    rcases Nat.lt_or_ge o H.length with h1 | h1
    · exact h1
    · exact absurd (hH.out o h1) h
  refine ⟨?_, ?_, ?_, hH.inj, ?_⟩
  · intro o blk base k h
    rw [hobj o (hlt o (by rw [h]; simp))]; exact hH.live o blk base k h
  · intro o h
    rw [hobj o (hlt o (by rw [h]; simp))]; exact hH.dead o h
  · intro o h
    rw [hobj o (hlt o (by rw [h]; simp))]; exact hH.virt o h
  · intro o h
    rw [List.length_append] at h
    exact hH.out o (by omega)
/-- The operations of a region, in the order of the text. -/
theorem ops_sound (hO : OrOK P C N E) (hN : NOK P N C E.G) {ops : Array Oper} {Q : Exit → Act → World → Prop} {base nt : Nat} (hdst : ∀ o ∈ ops.toList, ∀ d, o.dst = some d → d < nt) : ∀ (m k id R : Nat) (s s' : St) (a : Act) (w : World) (S : Stab) (β : Pl), k + m = ops.size →
    evalOps E ((ops.toList.drop k).map (digO P N ops)) id s = some s' → Inv P N C E B base nt s a w S β → (∀ j, id ≤ j → j < R → β j = .pend) → id + nadds ((ops.toList.drop k).map (digO P N ops)) ≤ R → R ≤ s.H.length → base ≤ id →
    (∀ a' w' S' β', Inv P N C E B base nt s' a' w' S' β' → Ext B w S w' S' → Lb base β β' → Q .normal a' w') → wpOps P ops Q (List.range' k m) a w := by
  intro m
  induction m with
  | zero =>
    intro k id R s s' a w S β hk he hI _ _ _ _ hQ
    have : ops.toList.drop k = [] := by rw [List.drop_eq_nil_iff]; simp; omega
    rw [this] at he
    simp only [List.map_nil, evalOps, Option.some.injEq] at he
    subst he
    exact hQ a w S β hI (Ext.refl _ _ _) (Lb.refl _ _)
  | succ m ih =>
    intro k id R s s' a w S β hk he hI hpend hroom hR hbase hQ
    have hks : k < ops.size := by omega
    have hdrop : ops.toList.drop k = ops[k] :: ops.toList.drop (k + 1) := by
      rw [List.drop_eq_getElem_cons (by simpa using hks)]; simp
    rw [hdrop] at he hroom
    simp only [List.map_cons] at he hroom
    have hget : ops[k]? = some ops[k] := by simp [hks]
    rw [List.range'_succ]
    simp only [wpOps, hget]
    have hmem : ops[k] ∈ ops.toList := by simp
    generalize hok : ops[k] = o at *
    have hdo := hdst o hmem
    -- what the resolved operation is
    have hdig : (∃ x g, digOp P N o = some x ∧ digG ops o.guard = some g ∧ digO P N ops o = ⟨o.dst, x, g⟩) ∨ digO P N ops o = ⟨o.dst, .bad, none⟩ := by
      unfold digO
      split
      · exact .inl ⟨_, _, by assumption, by assumption, rfl⟩
      · exact .inr rfl
    rcases hdig with ⟨x, g, hx, hg, hdo'⟩ | hbad
    · rw [hdo'] at he hroom
      have hput : ∀ (v : PV) (H' : Heap) (u : Value) (w' : World) (S' : Stab) (β' : Pl), Ext B w S w' S' → Swf w' S' → HOK C B w' S' β' H' → Later β β' → RelV C w' S' β' v u → s.H.length ≤ H'.length →
          Inv P N C E B base nt ⟨match o.dst with | some t => s.fr.set t v | none => s.fr, H'⟩ (a.put o.dst u) w' S' β' := by
        intro v H' u w' S' β' e1 e2 e3 e4 e5 e6
        refine ⟨e2, hI.gok.ext e1, Nat.le_trans hI.hB e1.below.size, e3, ?_, ?_, ?_, Nat.le_trans hI.base e6⟩
        · cases hd : o.dst with
          | none => exact hI.fok.ext e1 e4
          | some d => exact (hI.fok.ext e1 e4).put (by rw [hI.size]; exact hdo d hd) e5
        · cases hd : o.dst with
          | none => exact hI.size
          | some d => simp [Act.put, hI.size]
        · cases hd : o.dst <;> exact hI.defers
      have hadds : nadds (⟨o.dst, x, g⟩ :: (ops.toList.drop (k + 1)).map (digO P N ops)) = (if x.adds then 1 else 0) + nadds ((ops.toList.drop (k + 1)).map (digO P N ops)) := rfl
      rw [hadds] at hroom
      have go : (match evalOp E (rd E s.fr) s.H id x with
          | some (v, H) => evalOps E ((ops.toList.drop (k + 1)).map (digO P N ops)) (if x.adds then id + 1 else id) ⟨match o.dst with | some t => s.fr.set t v | none => s.fr, H⟩
          | none => none) = some s' → o.wp P a w (wpOps P ops Q (List.range' (k + 1) m)) Q := by
        intro he
        split at he
        · rename_i v H' hev
          have hev' : evalOp E (rd E s.fr) s.H (if x.adds then id else s.H.length) x = some (v, H') := by
            cases ha : x.adds with
            | true => exact hev
            | false => rw [← hev]; exact evalOp_id ha _ _
          refine op_sound hO hN hI.gok hI.swf hI.hB hI.hok hI.fok hx ?_ hev' ?_
          · intro hadd
            rw [if_pos hadd] at hroom ⊢
            exact ⟨hpend id (Nat.le_refl _) (by omega), by omega⟩
          · intro u w' S' β' e1 e2 e3 e4 e5 e6 e7
            refine ih (k + 1) _ R _ s' _ w' S' β' (by omega) he (hput v H' u w' S' β' e1 e2 e3 e4 e5 e6) ?_ ?_ (by simp only; omega) ?_ ?_
            · intro j hj hj'
              split at hj
              · rename_i ha; rw [if_pos ha] at e7
                exact e7 j (by omega) (by omega) (hpend j (by omega) hj')
              · rename_i ha; rw [if_neg ha] at e7
                exact e7 j (by omega) (by omega) (hpend j (by omega) hj')
            · split at hroom
              · rename_i ha; rw [if_pos ha]; omega
              · rename_i ha; rw [if_neg ha]; omega
            · split <;> omega
            · intro a' w'' S'' β'' hI' e8 e9
              refine hQ a' w'' S'' β'' hI' (e1.trans e8) (Lb.trans ?_ e9)
              intro o' ho'
              have := hI.base
              exact ⟨e4 o', fun hp => e7 o' (by omega) (by split <;> omega) hp⟩
        · cases he
      have no : evalOps E ((ops.toList.drop (k + 1)).map (digO P N ops)) (if x.adds then id + 1 else id) ⟨match o.dst with | some t => s.fr.set t (.t []) | none => s.fr, s.H⟩ = some s' → wpOps P ops Q (List.range' (k + 1) m) (a.put o.dst undef) w := by
        intro he
        refine ih (k + 1) _ R _ s' _ w S β (by omega) he (hput (.t []) s.H undef w S β (Ext.refl _ _ _) hI.swf hI.hok (Later.refl _) (.t [] [] rfl (fun j h => absurd h (Nat.not_lt_zero _))) (Nat.le_refl _)) ?_ ?_ hR ?_ hQ
        · intro j hj hj'
          exact hpend j (by split at hj <;> omega) hj'
        · split at hroom
          · rename_i ha; rw [if_pos ha]; omega
          · rename_i ha; rw [if_neg ha]; omega
        · split <;> omega
      simp only [evalOps] at he
      cases hgo : o.guard with
      | none =>
        rw [hgo] at hg
        simp only [digG, Option.some.injEq] at hg
        subst hg
        have hw : Region.wanted o (yielded ops a.tmps) = true := by simp [Region.wanted, hgo]
        rw [if_pos hw]
        exact .inl (go he)
      | some gw =>
        obtain ⟨j, want⟩ := gw
        rw [hgo] at hg
        simp only [digG] at hg
        obtain ⟨t, ht, hg⟩ := Option.bind_eq_some_iff.1 hg
        cases hg
        simp only at he
        have hyt := hI.fok t
        have hy : yielded ops a.tmps j = match a.tmps[t]? with | some (.bool b) => some b | _ => none := by
          unfold yielded; rw [ht]; rfl
        split at he
        · rename_i b hb
          rw [hb] at hyt
          have := bool_rel hyt
          have hyb : yielded ops a.tmps j = some b := by
            rw [hy]
            rw [Array.getD_eq_getD_getElem?] at this
            cases hq : a.tmps[t]? with
            | none => rw [hq] at this; cases this
            | some z => rw [hq] at this; simp at this; subst this; rfl
          have hwd : Region.wanted o (yielded ops a.tmps) = (b == want) := by
            simp only [Region.wanted, hgo, hyb]
            cases b <;> cases want <;> rfl
          rw [hwd]
          split at he
          · rename_i hbw; rw [if_pos hbw]; exact .inl (go he)
          · rename_i hbw; rw [if_neg hbw]; exact no he
        · rename_i hb
          rw [hb] at hyt
          have hyb : yielded ops a.tmps j = none := by
            rw [hy]
            rw [Array.getD_eq_getD_getElem?] at hyt
            cases hq : a.tmps[t]? with
            | none => rfl
            | some z =>
              rw [hq] at hyt
              simp only [Option.getD_some] at hyt
              cases hyt
              rfl
          have hwd : Region.wanted o (yielded ops a.tmps) = false := by
            simp only [Region.wanted, hgo, hyb]
            rfl
          rw [hwd]
          simp only [Bool.false_eq_true, if_false]
          exact no he
        · cases he
    · rw [hbad] at he
      simp [evalOps, evalOp] at he
end
end Go.Sim
