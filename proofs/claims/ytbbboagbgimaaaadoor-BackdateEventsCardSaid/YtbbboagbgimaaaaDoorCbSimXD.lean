/- Regions that draw their order. -/
import Derived.Test.YtbbboagbgimaaaaDoorCbSimX
open Go.RowKit
namespace Go.Sim
/-! What must come before. -/
theorem befE_spec (acc : List Nat) : ∀ (es : List Edge) (i : Nat), (befE acc es).testBit i = true → ∃ e ∈ es, Region.binds .any e = true ∧ (i = e.on ∨ (acc.getD e.on 0).testBit i = true)
  | [], i, h => by simp [befE] at h
  | e :: es, i, h => by
    unfold befE at h
    split at h
    · rename_i hb
      rw [Nat.testBit_or, Nat.testBit_or, Bool.or_eq_true, Bool.or_eq_true] at h
      rcases h with h | h | h
      · refine ⟨e, List.mem_cons_self .., hb, .inl ?_⟩
        rw [Nat.testBit_two_pow] at h
        have : e.on = i := by simpa using h
        exact this.symm
      · exact ⟨e, List.mem_cons_self .., hb, .inr h⟩
      · obtain ⟨e', h1, h2⟩ := befE_spec acc es i h
        exact ⟨e', List.mem_cons_of_mem _ h1, h2⟩
    · obtain ⟨e', h1, h2⟩ := befE_spec acc es i h
      exact ⟨e', List.mem_cons_of_mem _ h1, h2⟩
theorem bef_spec : ∀ (ops : List Oper) (acc : List Nat), (bef ops acc).length = acc.length + ops.length ∧ (∀ j, j < acc.length → (bef ops acc)[j]? = acc[j]?) ∧
    ∀ j (h : j < ops.length), ∃ acc' : List Nat, acc'.length = acc.length + j ∧ (∀ i, i < acc'.length → acc'[i]? = (bef ops acc)[i]?) ∧ (bef ops acc)[acc.length + j]? = some (befE acc' (ops[j].after.toList))
  | [], acc => ⟨by simp [bef], fun _ _ => rfl, fun j h => absurd h (Nat.not_lt_zero _)⟩
  | o :: r, acc => by
    obtain ⟨h1, h2, h3⟩ := bef_spec r (acc ++ [befE acc o.after.toList])
    have hl : (acc ++ [befE acc o.after.toList]).length = acc.length + 1 := by simp
    refine ⟨by simp only [bef, h1, hl, List.length_cons]; omega, ?_, ?_⟩
    · intro j hj
      simp only [bef]
      rw [h2 j (by rw [hl]; omega), List.getElem?_append_left hj]
    · intro j hj
      cases j with
      | zero =>
        refine ⟨acc, by simp, ?_, ?_⟩
        · intro i hi
          simp only [bef]
          rw [h2 i (by rw [hl]; omega), List.getElem?_append_left hi]
        · simp only [bef, Nat.add_zero, List.getElem_cons_zero]
          rw [h2 acc.length (by rw [hl]; omega), List.getElem?_append_right (Nat.le_refl _)]
          simp
      | succ j =>
        obtain ⟨acc', a1, a2, a3⟩ := h3 j (by simpa using hj)
        refine ⟨acc', by rw [a1, hl]; omega, a2, ?_⟩
        rw [hl] at a3
        simp only [bef, List.getElem_cons_succ]
        have e : acc.length + (j + 1) = acc.length + 1 + j := by omega
        rw [e]; exact a3
/-- Whatever must come before lies in every set that is closed. -/
theorem bef_closed {ops : List Oper} {S : Nat → Prop} (hS : ∀ j (h : j < ops.length), S j → ∀ e ∈ ops[j].after.toList, Region.binds .any e = true → S e.on) :
    ∀ (j : Nat) (h : j < ops.length), (∀ e ∈ ops[j].after.toList, Region.binds .any e = true → S e.on) → ∀ i, ((bef ops []).getD j 0).testBit i = true → S i := by
  intro j
  induction j using Nat.strongRecOn with
  | ind j ih =>
    intro hj hpre i hi
    obtain ⟨acc', a1, a2, a3⟩ := (bef_spec ops []).2.2 j hj
    simp only [List.length_nil, Nat.zero_add] at a1 a3
    rw [List.getD, a3, Option.getD_some] at hi
    obtain ⟨e, e1, e2, e3⟩ := befE_spec _ _ _ hi
    rcases e3 with rfl | e3
    · exact hpre e e1 e2
    · have hlt : e.on < acc'.length := by
        rcases Nat.lt_or_ge e.on acc'.length with h | h
        · exact h
        · rw [List.getD, List.getElem?_eq_none h] at e3; simp at e3
      have e4 : (bef ops []).getD e.on 0 = acc'.getD e.on 0 := by rw [List.getD, List.getD, a2 _ hlt]
      rw [← e4] at e3
      have hjl : e.on < j := by omega
      exact ih e.on hjl (by omega) (hS e.on (by omega) (hpre e e1 e2)) i e3
/-! How the abstract operation hangs on the frame and the heap. -/
section
variable {E : Env} {H H2 : Heap}
theorem rd_congr {fr fr' : Fr} {r : Rand} (h : ∀ t ∈ r.uses, fr.get t = fr'.get t) : rd E fr r = rd E fr' r := by
  cases r with
  | t n => exact h n (by simp [Rand.uses])
  | _ => rfl
theorem rds_congr {fr fr' : Fr} : ∀ {rs : List Rand}, (∀ t ∈ usesL rs, fr.get t = fr'.get t) → rs.map (rd E fr) = rs.map (rd E fr')
  | [], _ => rfl
  | r :: rs, h => by
    simp only [usesL, List.flatMap_cons, List.mem_append] at h
    rw [List.map_cons, List.map_cons, rd_congr (fun t ht => h t (.inl ht)), rds_congr (rs := rs) (fun t ht => h t (.inr ht))]
theorem rdo_congr {fr fr' : Fr} {r : Option Rand} (h : ∀ t ∈ usesO r, fr.get t = fr'.get t) : r.map (rd E fr) = r.map (rd E fr') := by
  cases r with
  | none => rfl
  | some r => simp only [Option.map_some]; rw [rd_congr h]
theorem opD_congr {fr fr' : Fr} {id : Nat} {x : IOp} (h : ∀ t ∈ x.uses, fr.get t = fr'.get t) : evalOpD E (rd E fr) H id x = evalOpD E (rd E fr') H id x := by
  have h1 : ∀ r : Rand, (∀ t ∈ r.uses, t ∈ x.uses) → rd E fr r = rd E fr' r := fun r hr => rd_congr fun t ht => h t (hr t ht)
  have hL : ∀ rs : List Rand, (∀ t ∈ usesL rs, t ∈ x.uses) → rs.map (rd E fr) = rs.map (rd E fr') := fun rs hr => rds_congr fun t ht => h t (hr t ht)
  have hO : ∀ r : Option Rand, (∀ t ∈ usesO r, t ∈ x.uses) → r.map (rd E fr) = r.map (rd E fr') := fun r hr => rdo_congr fun t ht => h t (hr t ht)
  cases x with
  | call m f args =>
    have := hL args (fun t ht => ht)
    match m with
    | 0 => simp only [evalOpD, this]
    | 1 => simp only [evalOpD, this]
    | m + 2 => rfl
  | bsl k z len parts =>
    have : parts.map (fun x => (x.1, rd E fr x.2)) = parts.map (fun x => (x.1, rd E fr' x.2)) := by
      apply List.map_congr_left
      intro p hp
      rw [h1 p.2 (fun t ht => by simp only [IOp.uses, List.mem_flatMap]; exact ⟨p, hp, ht⟩)]
    simp only [evalOpD, this]
  | agg z parts =>
    have : parts.map (fun x => (x.1, x.2.1, rd E fr x.2.2)) = parts.map (fun x => (x.1, x.2.1, rd E fr' x.2.2)) := by
      apply List.map_congr_left
      intro p hp
      rw [h1 p.2.2 (fun t ht => by simp only [IOp.uses, List.mem_flatMap]; exact ⟨p, hp, ht⟩)]
    simp only [evalOpD, evalOp, this]
  | mov x => simp only [evalOpD, evalOp]; rw [h1 x (fun t ht => ht)]
  | pick c a b => simp only [evalOpD, evalOp]; rw [h1 c (fun t ht => by simp [IOp.uses, ht]), h1 a (fun t ht => by simp [IOp.uses, ht]), h1 b (fun t ht => by simp [IOp.uses, ht])]
  | box k x => simp only [evalOpD, evalOp]; rw [h1 x (fun t ht => ht)]
  | load k x => simp only [evalOpD, evalOp]; rw [h1 x (fun t ht => ht)]
  | un op x => simp only [evalOpD, evalOp]; rw [h1 x (fun t ht => ht)]
  | conv k x => simp only [evalOpD, evalOp]; rw [h1 x (fun t ht => ht)]
  | faddr o x => simp only [evalOpD, evalOp]; rw [h1 x (fun t ht => ht)]
  | field o k x => simp only [evalOpD, evalOp]; rw [h1 x (fun t ht => ht)]
  | len s x => simp only [evalOpD, evalOp]; rw [h1 x (fun t ht => ht)]
  | ext x i => simp only [evalOpD, evalOp]; rw [h1 x (fun t ht => ht)]
  | nilck x => simp only [evalOpD, evalOp]; rw [h1 x (fun t ht => ht)]
  | store k x y => simp only [evalOpD, evalOp]; rw [h1 x (fun t ht => by simp [IOp.uses, ht]), h1 y (fun t ht => by simp [IOp.uses, ht])]
  | bin op x y => simp only [evalOpD, evalOp]; rw [h1 x (fun t ht => by simp [IOp.uses, ht]), h1 y (fun t ht => by simp [IOp.uses, ht])]
  | eqv n m x y => simp only [evalOpD, evalOp]; rw [h1 x (fun t ht => by simp [IOp.uses, ht]), h1 y (fun t ht => by simp [IOp.uses, ht])]
  | eqb n x y => simp only [evalOpD, evalOp]; rw [h1 x (fun t ht => by simp [IOp.uses, ht]), h1 y (fun t ht => by simp [IOp.uses, ht])]
  | iaddr k x y => simp only [evalOpD, evalOp]; rw [h1 x (fun t ht => by simp [IOp.uses, ht]), h1 y (fun t ht => by simp [IOp.uses, ht])]
  | iaddrA n k x y => simp only [evalOpD, evalOp]; rw [h1 x (fun t ht => by simp [IOp.uses, ht]), h1 y (fun t ht => by simp [IOp.uses, ht])]
  | idxS x y => simp only [evalOpD, evalOp]; rw [h1 x (fun t ht => by simp [IOp.uses, ht]), h1 y (fun t ht => by simp [IOp.uses, ht])]
  | idxA n k x y => simp only [evalOpD, evalOp]; rw [h1 x (fun t ht => by simp [IOp.uses, ht]), h1 y (fun t ht => by simp [IOp.uses, ht])]
  | mksl k b z x y => simp only [evalOpD, evalOp]; rw [h1 x (fun t ht => by simp [IOp.uses, ht]), h1 y (fun t ht => by simp [IOp.uses, ht])]
  | slS x a b => simp only [evalOpD, evalOp]; rw [h1 x (fun t ht => by simp [IOp.uses, ht]), hO a (fun t ht => by simp [IOp.uses, ht]), hO b (fun t ht => by simp [IOp.uses, ht])]
  | sl k x a b c => simp only [evalOpD, evalOp]; rw [h1 x (fun t ht => by simp [IOp.uses, ht]), hO a (fun t ht => by simp [IOp.uses, ht]), hO b (fun t ht => by simp [IOp.uses, ht]), hO c (fun t ht => by simp [IOp.uses, ht])]
  | mkf f cs => simp only [evalOpD, evalOp]; rw [hL cs (fun t ht => ht)]
  | prim p cs => simp only [evalOpD, evalOp]; rw [hL cs (fun t ht => ht)]
  | minmax b cs => simp only [evalOpD, evalOp]; rw [hL cs (fun t ht => ht)]
  | _ => rfl
/-- H2 holds at least what H holds. -/
def Hle (H H2 : Heap) : Prop := H.length = H2.length ∧ ∀ o x, H.obj o = some x → H2.obj o = some x
theorem purC_le (h : Hle H H2) {v : PV} {r : DV × List Nat} (hr : purC H v = some r) : purC H2 v = some r := by
  unfold purC at hr ⊢
  split at hr
  · exact hr
  · exact hr
  · split at hr
    · rename_i ho; rw [h.2 _ _ ho]; exact hr
    · cases hr
  · cases hr
theorem purL_le (h : Hle H H2) : ∀ {vs : List PV} {r : List DV × List Nat}, purL H vs = some r → purL H2 vs = some r
  | [], _, hr => hr
  | v :: vs, r, hr => by
    unfold purL at hr ⊢
    split at hr
    · rename_i h1 h2; rw [purC_le h h1, purL_le h h2]; exact hr
    · cases hr
theorem pur_le (h : Hle H H2) {v : PV} {r : DV × List Nat} (hr : pur H v = some r) : pur H2 v = some r := by
  unfold pur at hr ⊢
  split at hr
  · split at hr
    · rename_i h1; rw [purL_le h h1]; exact hr
    · cases hr
  · exact purC_le h hr
theorem purs_le (h : Hle H H2) : ∀ {vs : List PV} {r : List DV × List Nat}, purs H vs = some r → purs H2 vs = some r
  | [], _, hr => hr
  | v :: vs, r, hr => by
    unfold purs at hr ⊢
    split at hr
    · rename_i h1 h2; rw [pur_le h h1, purs_le h h2]; exact hr
    · cases hr
theorem loadA_le (h : Hle H H2) {k : K} {p v : PV} (hr : loadA H k p = some v) : loadA H2 k p = some v := by
  unfold loadA at hr ⊢
  split at hr
  · split at hr
    · rename_i ho; rw [h.2 _ _ ho]; exact hr
    · rename_i ho; rw [h.2 _ _ ho]; exact hr
    · cases hr
  · exact hr
  · cases hr
theorem slA_le (h : Hle H H2) {k : K} {x v : PV} {a b c : Option PV} (hr : slA H k x a b c = some v) : slA H2 k x a b c = some v := by
  unfold slA at hr ⊢
  split at hr
  · exact hr
  · split at hr
    · rename_i ho; rw [h.2 _ _ ho]; exact hr
    · cases hr
  · cases hr
theorem iaddr_le (h : Hle H H2) {k : K} {x i v : PV} (hr : iaddr H k x i = some v) : iaddr H2 k x i = some v := by
  unfold iaddr at hr ⊢
  split at hr
  · cases hr
  · split at hr
    · exact hr
    · split at hr
      · rename_i hj ho; simp only [hj, h.2 _ _ ho]; exact hr
      · cases hr
    · cases hr
theorem lenA_le (h : Hle H H2) {s : Bool} {x : PV} {n : Nat} (hr : lenA H s x = some n) : lenA H2 s x = some n := by
  unfold lenA at hr ⊢
  split at hr
  · exact hr
  · split at hr
    · cases hr
    · rename_i hs
      rw [if_neg hs]
      split at hr
      · rename_i ho; rw [h.2 _ _ ho]; exact hr
      · cases hr
  · exact hr
  · cases hr
theorem bslA_le (h : Hle H H2) {k : K} : ∀ {ps : List (Nat × PV)} {es : List DV} {r : List DV × List Nat}, bslA H k es ps = some r → bslA H2 k es ps = some r
  | [], _, _, hr => hr
  | (j, v) :: ps, es, r, hr => by
    unfold bslA at hr ⊢
    split at hr
    · rename_i hc
      rw [if_pos hc]
      split at hr
      · rename_i h1
        rw [pur_le h h1]
        split at hr
        · rename_i h2; simp only [bslA_le h h2]; exact hr
        · cases hr
      · cases hr
    · cases hr
theorem opD_op {ρ : Rand → PV} {id : Nat} {x : IOp} {r : PV × Heap} (h : evalOpD E ρ H id x = some r) : evalOp E ρ H id x = some r := by
  cases x with
  | call m f args =>
    match m with
    | 0 =>
      simp only [evalOpD, evalOp] at h ⊢
      cases hp : purs H (args.map ρ) with
      | none => rw [hp] at h; cases h
      | some q =>
        obtain ⟨ds, os⟩ := q
        rw [hp] at h
        simp only at h ⊢
        cases hv : E.val f ds with
        | none => rw [hv] at h; cases h
        | some q =>
          obtain ⟨r', own⟩ := q
          rw [hv] at h
          simp only at h ⊢
          split at h
          · rename_i hc; rw [if_pos hc]; exact h
          · cases h
    | 1 =>
      simp only [evalOpD, evalOp] at h ⊢
      cases hp : purs H (args.map ρ) with
      | none => rw [hp] at h; cases h
      | some q =>
        obtain ⟨ds, os⟩ := q
        rw [hp] at h
        simp only at h ⊢
        split at h
        · split at h
          · rename_i hc; rw [if_pos hc]; exact h
          · cases h
        · cases h
    | m + 2 => simp [evalOpD] at h
  | bsl k z len parts =>
    simp only [evalOpD, evalOp] at h ⊢
    split at h
    · rename_i es os h1
      split at h
      · rename_i hc
        have : os = [] := by simpa using hc
        subst this
        exact h
      · cases h
    · cases h
  | store k x y =>
    simp only [evalOpD, evalOp] at h ⊢
    split at h
    · exact h
    · cases h
  | callv x args => simp [evalOpD] at h
  | app k b x y => simp [evalOpD] at h
  | copy k x y => simp [evalOpD] at h
  | bad => simp [evalOpD] at h
  | isnil n x => simp [evalOpD] at h
  | _ => exact h
theorem opD_pure {ρ : Rand → PV} {id : Nat} {x : IOp} {v : PV} {H' : Heap} (hp : x.pure = true) (h : evalOpD E ρ H id x = some (v, H')) : H' = H ∧ ∀ H2, evalOpD E ρ H2 id x = some (v, H2) := by
  have key : ∀ (z : Option PV), opt z H = some (v, H') → H' = H ∧ ∀ H2, opt z H2 = some (v, H2) := by
    intro z hz
    unfold opt at hz ⊢
    split at hz
    · cases hz; exact ⟨rfl, fun _ => rfl⟩
    · cases hz
  have keyD : ∀ (z : Option DV), optD z H = some (v, H') → H' = H ∧ ∀ H2, optD z H2 = some (v, H2) := by
    intro z hz
    unfold optD at hz ⊢
    split at hz
    · cases hz; exact ⟨rfl, fun _ => rfl⟩
    · cases hz
  cases x with
  | mov x => simp only [evalOpD, evalOp] at h ⊢; cases h; exact ⟨rfl, fun _ => rfl⟩
  | mkf f cs => simp only [evalOpD, evalOp] at h ⊢; cases h; exact ⟨rfl, fun _ => rfl⟩
  | pick c a b =>
    simp only [evalOpD, evalOp] at h ⊢
    split at h
    · cases h; exact ⟨rfl, fun _ => rfl⟩
    · cases h; exact ⟨rfl, fun _ => rfl⟩
    · cases h
  | agg z ps =>
    simp only [evalOpD, evalOp] at h ⊢
    split at h
    · cases h; exact ⟨rfl, fun _ => rfl⟩
    · cases h
  | bin op x y => exact keyD _ h
  | un op x => exact keyD _ h
  | faddr o x => exact key _ h
  | field o k x => exact key _ h
  | prim p as => exact key _ h
  | eqv n m x y =>
    simp only [evalOpD, evalOp] at h ⊢
    split at h
    · cases h; exact ⟨rfl, fun _ => rfl⟩
    · cases h
  | eqb n x y =>
    simp only [evalOpD, evalOp] at h ⊢
    split at h
    · cases h; exact ⟨rfl, fun _ => rfl⟩
    · cases h
  | conv k x =>
    simp only [evalOpD, evalOp] at h ⊢
    split at h
    · cases h; exact ⟨rfl, fun _ => rfl⟩
    · cases h
  | nilck x =>
    simp only [evalOpD, evalOp] at h ⊢
    split at h <;> first | (cases h; exact ⟨rfl, fun _ => rfl⟩) | cases h
  | ext x i =>
    simp only [evalOpD, evalOp] at h ⊢
    split at h
    · exact key _ h
    · cases h
  | slS x a b =>
    simp only [evalOpD, evalOp] at h ⊢
    split at h
    · split at h
      · split at h
        · cases h; exact ⟨rfl, fun _ => rfl⟩
        · cases h
      · cases h
    · cases h
  | iaddrA n k x y =>
    simp only [evalOpD, evalOp] at h ⊢
    split at h
    · split at h
      · exact key _ h
      · cases h
    · cases h
  | idxA n k x y =>
    simp only [evalOpD, evalOp] at h ⊢
    split at h
    · split at h
      · exact key _ h
      · cases h
    · cases h
  | idxS x y =>
    simp only [evalOpD, evalOp] at h ⊢
    split at h
    · split at h
      · split at h
        · cases h; exact ⟨rfl, fun _ => by simp_all⟩
        · cases h
      · cases h
    · cases h
  | minmax b as =>
    simp only [evalOpD, evalOp] at h ⊢
    split at h
    · exact key _ h
    · cases h
  | _ => simp [IOp.pure] at hp
theorem opD_read {ρ : Rand → PV} {id : Nat} {x : IOp} {v : PV} {H' : Heap} (hp : x.pure = false) (he : x.eff = false) (ha : x.adds = false) (h : evalOpD E ρ H id x = some (v, H')) : H' = H ∧ ∀ H2, Hle H H2 → evalOpD E ρ H2 id x = some (v, H2) := by
  have key : ∀ (g : Heap → Option PV), (∀ H2, Hle H H2 → ∀ z, g H = some z → g H2 = some z) → opt (g H) H = some (v, H') → H' = H ∧ ∀ H2, Hle H H2 → opt (g H2) H2 = some (v, H2) := by
    intro g hg hz
    unfold opt at hz
    split at hz
    · rename_i hq
      cases hz
      exact ⟨rfl, fun H2 hle => by rw [hg H2 hle _ hq]; rfl⟩
    · cases hz
  cases x with
  | load k x => exact key (fun H => loadA H k (ρ x)) (fun H2 hle z hz => loadA_le hle hz) h
  | sl k x a b c => exact key (fun H => slA H k (ρ x) (a.map ρ) (b.map ρ) (c.map ρ)) (fun H2 hle z hz => slA_le hle hz) h
  | iaddr k x i => exact key (fun H => iaddr H k (ρ x) (ρ i)) (fun H2 hle z hz => iaddr_le hle hz) h
  | len s x =>
    simp only [evalOpD, evalOp] at h ⊢
    split at h
    · rename_i hq
      cases h
      exact ⟨rfl, fun H2 hle => by rw [lenA_le hle hq]⟩
    · cases h
  | call m f args =>
    match m with
    | 0 =>
      simp only [evalOpD] at h ⊢
      split at h
      · rename_i hq
        split at h
        · rename_i h2
          split at h
          · rename_i hc
            cases h
            exact ⟨rfl, fun H2 hle => by rw [purs_le hle hq]; simp only [h2, hc, if_true]⟩
          · cases h
        · cases h
      · cases h
    | 1 => simp [IOp.adds] at ha
    | m + 2 => simp [evalOpD] at h
  | callv x as => simp [evalOpD] at h
  | copy k x y => simp [evalOpD] at h
  | bad => simp [evalOpD] at h
  | isnil n x => simp [evalOpD] at h
  | alloc => simp [IOp.adds] at ha
  | box => simp [IOp.adds] at ha
  | bsl => simp [IOp.adds] at ha
  | app => simp [IOp.adds] at ha
  | mksl => simp [IOp.adds] at ha
  | store => simp [IOp.eff] at he
  | _ => simp [IOp.pure] at hp
theorem opD_add {ρ : Rand → PV} {id : Nat} {x : IOp} {v : PV} {H' : Heap} (ha : x.adds = true) (h : evalOpD E ρ H id x = some (v, H')) : ∃ y, H' = H.put id (some y) ∧ ∀ H2, Hle H H2 → evalOpD E ρ H2 id x = some (v, H2.put id (some y)) := by
  cases x with
  | alloc k z => simp only [evalOpD, evalOp] at h ⊢; cases h; exact ⟨_, rfl, fun _ _ => rfl⟩
  | box k x =>
    simp only [evalOpD, evalOp] at h ⊢
    split at h
    · rename_i hc; cases h; exact ⟨_, rfl, fun _ _ => by rw [if_pos hc]⟩
    · cases h
  | bsl k z n ps =>
    simp only [evalOpD] at h ⊢
    split at h
    · rename_i es os hq
      split at h
      · rename_i hc; cases h
        exact ⟨_, rfl, fun H2 hle => by simp only [bslA_le hle hq, hc, if_true]⟩
      · cases h
    · cases h
  | mksl k b z x y =>
    simp only [evalOpD, evalOp] at h ⊢
    split at h
    · split at h
      · rename_i hc; cases h; exact ⟨_, rfl, fun _ _ => by rw [if_pos hc]⟩
      · cases h
    · cases h
  | call m f args =>
    match m with
    | 1 =>
      simp only [evalOpD] at h ⊢
      split at h
      · rename_i hq
        split at h
        · rename_i h2
          split at h
          · rename_i hc
            cases h
            exact ⟨_, rfl, fun H2 hle => by simp only [purs_le hle hq, h2, hc, if_true]⟩
          · cases h
        · cases h
      · cases h
    | 0 => simp [IOp.adds] at ha
    | m + 2 => simp [evalOpD] at h
  | app => simp [evalOpD] at h
  | _ => simp [IOp.adds] at ha
theorem opD_eff {ρ : Rand → PV} {id : Nat} {x : IOp} {v : PV} {H' : Heap} (he : x.eff = true) (h : evalOpD E ρ H id x = some (v, H')) : H'.length = H.length ∧ (∀ o, H.obj o = none → H'.obj o = none) ∧
    ∀ H2, Hle H H2 → ∃ H2', evalOpD E ρ H2 id x = some (v, H2') ∧ H2'.length = H2.length ∧ (∀ o, H.obj o = none → H2'.obj o = H2.obj o) ∧ ∀ o, H.obj o ≠ none → H2'.obj o = H'.obj o := by
  cases x with
  | store k x y =>
    simp only [evalOpD] at h ⊢
    split at h
    · rename_i hcalm
      split at h
      · rename_i H1 hst
        simp only [Option.some.injEq, Prod.mk.injEq] at h
        obtain ⟨rfl, rfl⟩ := h
        generalize ρ x = p at *
        generalize ρ y = uv at *
        -- the target
        have htgt : ∃ o y', H.obj o ≠ none ∧ H1 = H.put o (some y') ∧ ∀ H2, Hle H H2 → calm H2 p uv = true ∧ storeA H2 k p uv = some (H2.put o (some y')) := by
          unfold calm at hcalm
          split at hcalm
          · rename_i o i c
            unfold storeA at hst
            simp only at hst
            split at hst
            · rename_i hfit
              split at hst
              · rename_i kb w' ho
                split at hst
                · rename_i hi
                  split at hst
                  · rename_i hck
                    cases hst
                    refine ⟨o, _, by rw [ho]; simp, rfl, fun H2 hle => ⟨by simp [calm, hle.2 _ _ ho], ?_⟩⟩
                    simp only [storeA, hfit, if_true, hle.2 _ _ ho, hi, hck]
                  · rename_i hck
                    split at hst
                    · rename_i hle1
                      split at hst
                      · rename_i y' hy'
                        cases hst
                        refine ⟨o, _, by rw [ho]; simp, rfl, fun H2 hle => ⟨by simp [calm, hle.2 _ _ ho], ?_⟩⟩
                        simp only [storeA, hfit, if_true, hle.2 _ _ ho, hi, hck, hle1, hy']
                        rfl
                      · cases hst
                    · cases hst
                · cases hst
              · rename_i kb ro es ho
                rw [ho] at hcalm
                simp only at hcalm
                split at hcalm
                · rename_i x' os hpur
                  have hos : os = [] := by simpa using hcalm
                  subst hos
                  split at hst
                  · rename_i ee hee
                    split at hst
                    · rename_i hro
                      rw [hpur] at hst
                      simp only at hst
                      split at hst
                      · cases hst
                      · rename_i hno
                        split at hst
                        · rename_i hck
                          cases hst
                          refine ⟨o, _, by rw [ho]; simp, rfl, fun H2 hle => ⟨by simp [calm, hle.2 _ _ ho, pur_le hle hpur], ?_⟩⟩
                          simp only [storeA, hfit, if_true, hle.2 _ _ ho, hee, hro, pur_le hle hpur, hno, hck]
                          rfl
                        · rename_i hck
                          split at hst
                          · rename_i hle1
                            split at hst
                            · rename_i y' hy'
                              cases hst
                              refine ⟨o, _, by rw [ho]; simp, rfl, fun H2 hle => ⟨by simp [calm, hle.2 _ _ ho, pur_le hle hpur], ?_⟩⟩
                              simp only [storeA, hfit, if_true, hle.2 _ _ ho, hee, hro, pur_le hle hpur, hno, hck, hle1, hy']
                              rfl
                            · cases hst
                          · cases hst
                    · cases hst
                  · cases hst
                · cases hcalm
              · cases hst
            · cases hst
          · cases hcalm
        obtain ⟨o, y', h1, rfl, h3⟩ := htgt
        refine ⟨put_length _ _ _, ?_, ?_⟩
        · intro o' ho'
          have : o ≠ o' := fun h => h1 (h ▸ ho')
          rw [obj_put_ne this]; exact ho'
        · intro H2 hle
          obtain ⟨q1, q2⟩ := h3 H2 hle
          refine ⟨_, by rw [if_pos q1, q2], put_length _ _ _, ?_, ?_⟩
          · intro o' ho'
            have : o ≠ o' := fun h => h1 (h ▸ ho')
            rw [obj_put_ne this]
          · intro o' ho'
            by_cases hoo : o = o'
            · subst hoo
              cases hx : H.obj o with
              | none => exact absurd hx h1
              | some z => rw [obj_put_same (obj_lt hx), obj_put_same (obj_lt (hle.2 _ _ hx))]
            · rw [obj_put_ne hoo, obj_put_ne hoo]
              cases hx : H.obj o' with
              | none => exact absurd hx ho'
              | some z => exact hle.2 _ _ hx
      · cases h
    · cases h
  | _ => simp [IOp.eff] at he
end
end Go.Sim
