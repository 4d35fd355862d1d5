/- Regions that draw their order: whatever the order, the outcome is that of the text's. -/
import Derived.Test.YtbbboagbgimaaaaDoorCbSimXD
open Go.RowKit
namespace Go.Sim
def putD (fr : Fr) (d : Option Nat) (v : PV) : Fr := match d with | some t => fr.set t v | none => fr
/-- Does the guard let the operation run? -/
def gd (o : IOper) (fr : Fr) : Option Bool := match o.g with
  | none => some true
  | some (t, want) => match fr.get t with
    | .d (.b b) => some (b == want)
    | .t [] => some false
    | _ => none
theorem stepD_cases {E : Env} {o : IOper} {id : Nat} {s s' : St} (h : stepD E o id s = some s') :
    (gd o s.fr = some true ∧ ∃ v H', evalOpD E (rd E s.fr) s.H id o.op = some (v, H') ∧ s' = ⟨putD s.fr o.dst v, H'⟩) ∨ (gd o s.fr = some false ∧ s' = ⟨putD s.fr o.dst (.t []), s.H⟩) := by
  have hgo : ∀ x, (match evalOpD E (rd E s.fr) s.H id o.op with
      | some (v, H) => some (⟨match o.dst with | some t => s.fr.set t v | none => s.fr, H⟩ : St)
      | none => none) = some x → ∃ v H', evalOpD E (rd E s.fr) s.H id o.op = some (v, H') ∧ x = ⟨putD s.fr o.dst v, H'⟩ := by
    intro x hx
    split at hx
    · rename_i v H he
      cases hx
      exact ⟨v, H, he, rfl⟩
    · cases hx
  unfold stepD at h
  unfold gd
  simp only at h
  split at h
  · rename_i hg; rw [hg]; exact .inl ⟨rfl, hgo _ h⟩
  · rename_i t want hg
    rw [hg]
    simp only
    split at h
    · rename_i b hb
      simp only [hb]
      split at h
      · rename_i hw; exact .inl ⟨by simp [hw], hgo _ h⟩
      · rename_i hw
        have : (b == want) = false := by simpa using hw
        cases h; exact .inr ⟨by simp [this], rfl⟩
    · rename_i hb
      simp only [hb]
      cases h; exact .inr ⟨by simp, rfl⟩
    · cases h
theorem get_putD (fr : Fr) (d : Option Nat) (v : PV) (t : Nat) : (putD fr d v).get t = if d = some t then v else fr.get t := by
  cases d with
  | none => simp [putD]
  | some d =>
    simp only [putD, get_set, Option.some.injEq]
    by_cases h : t = d
    · subst h; simp
    · rw [if_neg h, if_neg (fun e => h e.symm)]
/-- The states of the run in the order of the text. -/
theorem trace_exists {E : Env} : ∀ (L : List IOper) (id : Nat) (s s' : St), evalOpsD E L id s = some s' → ∃ st : Nat → St, st 0 = s ∧ st L.length = s' ∧ ∀ i (h : i < L.length), stepD E L[i] (id + nadds (L.take i)) (st i) = some (st (i + 1))
  | [], id, s, s', h => by cases h; exact ⟨fun _ => s, rfl, rfl, fun i h => absurd h (Nat.not_lt_zero _)⟩
  | o :: L, id, s, s', h => by
    simp only [evalOpsD] at h
    split at h
    · rename_i s1 h1
      obtain ⟨st, q1, q2, q3⟩ := trace_exists L _ s1 s' h
      refine ⟨fun i => match i with | 0 => s | i + 1 => st i, rfl, q2, ?_⟩
      intro i hi
      cases i with
      | zero => simpa [nadds, q1] using h1
      | succ i =>
        have := q3 i (by simpa using hi)
        simp only [List.getElem_cons_succ, List.take_succ_cons]
        have e : id + nadds (o :: L.take i) = (if o.op.adds then id + 1 else id) + nadds (L.take i) := by
          simp only [nadds]; split <;> omega
        rw [e]; exact this
    · cases h
theorem nadds_take_succ : ∀ (L : List IOper) (i : Nat) (h : i < L.length), nadds (L.take (i + 1)) = nadds (L.take i) + (if L[i].op.adds then 1 else 0)
  | [], i, h => absurd h (Nat.not_lt_zero _)
  | o :: L, 0, _ => by simp [nadds]
  | o :: L, i + 1, h => by
    have := nadds_take_succ L i (by simpa using h)
    simp only [List.take_succ_cons, nadds, List.getElem_cons_succ] at this ⊢
    rw [this]; omega
theorem nadds_take_le (L : List IOper) : ∀ i, nadds (L.take i) ≤ nadds L := by
  induction L with
  | nil => intro i; simp [nadds]
  | cons o L ih =>
    intro i
    cases i with
    | zero => simp [nadds]
    | succ i => simp only [List.take_succ_cons, nadds]; have := ih i; omega
section
variable (L : List IOper) (st : Nat → St) (id0 : Nat)
def idAt (i : Nat) : Nat := id0 + nadds (L.take i)
def valAt (i : Nat) : PV := match (L.getD i default).dst with | some d => (st (i + 1)).fr.get d | none => .u
/-- A slot behind the operations of S below m. -/
def TF (S : Nat → Bool) : Nat → Nat → PV
  | 0, t => (st 0).fr.get t
  | j + 1, t => if S j && (L.getD j default).dst == some t then valAt L st j else TF S j t
def cre : Nat → Nat → Option Obj
  | 0, _ => none
  | m + 1, o => if (L.getD m default).op.adds && idAt L id0 m == o then (st (m + 1)).H.obj o else cre m o
def ov (i : Nat) (o : Nat) : Option Obj := if idAt L id0 i ≤ o ∧ o < id0 + nadds L then cre L st id0 L.length o else (st i).H.obj o
variable {L st id0} {E : Env}
theorem TF_congr {S S' : Nat → Bool} {t : Nat} : ∀ {m : Nat}, (∀ j, j < m → (L.getD j default).dst = some t → S j = S' j) → TF L st S m t = TF L st S' m t
  | 0, _ => rfl
  | m + 1, h => by
    simp only [TF]
    by_cases hd : (L.getD m default).dst = some t
    · rw [h m (Nat.lt_succ_self m) hd, TF_congr (fun j hj => h j (Nat.lt_succ_of_lt hj))]
    · have : ((L.getD m default).dst == some t) = false := by simpa using hd
      simp only [this, Bool.and_false, Bool.false_eq_true, if_false]
      exact TF_congr (fun j hj => h j (Nat.lt_succ_of_lt hj))
theorem TF_cut {t i : Nat} : ∀ {m : Nat}, i ≤ m → TF L st (fun j => decide (j < i)) m t = TF L st (fun _ => true) i t
  | 0, h => by
    have : i = 0 := by omega
    subst this; rfl
  | m + 1, h => by
    by_cases hm : i = m + 1
    · subst hm
      exact TF_congr (fun j hj _ => by simpa using hj)
    · simp only [TF]
      have : decide (m < i) = false := by simp; omega
      simp only [this, Bool.false_and, Bool.false_eq_true, if_false]
      exact TF_cut (by omega)
theorem TF_text (htr : ∀ i (h : i < L.length), stepD E L[i] (id0 + nadds (L.take i)) (st i) = some (st (i + 1))) (t : Nat) : ∀ i, i ≤ L.length → (st i).fr.get t = TF L st (fun _ => true) i t
  | 0, _ => rfl
  | i + 1, hi => by
    have hget : L.getD i default = L[i] := by simp [List.getD, List.getElem?_eq_getElem (show i < L.length by omega)]
    have ih := TF_text htr t i (by omega)
    have hfr : ∃ v, (st (i + 1)).fr = putD (st i).fr L[i].dst v := by
      rcases stepD_cases (htr i (by omega)) with ⟨-, v, H', -, h⟩ | ⟨-, h⟩
      · exact ⟨v, by rw [h]⟩
      · exact ⟨_, by rw [h]⟩
    obtain ⟨v, hv⟩ := hfr
    simp only [TF, Bool.true_and, hget]
    split
    · rename_i hd
      simp only [beq_iff_eq] at hd
      simp only [valAt, hget, hd]
    · rename_i hd
      simp only [beq_iff_eq] at hd
      rw [hv, get_putD, if_neg hd]; exact ih
theorem TF_put {S : Nat → Bool} {i t : Nat} : ∀ {m : Nat}, i < m → S i = false → (∀ j, i < j → j < m → (L.getD j default).dst = some t → (L.getD i default).dst = some t → S j = false) →
    TF L st (fun j => S j || j == i) m t = if (L.getD i default).dst = some t then valAt L st i else TF L st S m t
  | 0, h, _, _ => absurd h (Nat.not_lt_zero _)
  | m + 1, h, hS, hlast => by
    by_cases hm : i = m
    · subst hm
      simp only [TF, BEq.rfl, Bool.or_true, Bool.true_and, beq_iff_eq]
      split
      · rfl
      · rename_i hd
        have : ((L.getD i default).dst == some t) = false := by simpa using hd
        simp only [this, Bool.and_false, Bool.false_eq_true, if_false]
        exact TF_congr (fun j hj _ => by
          have : (j == i) = false := by simp; omega
          simp [this])
    · have hlt : i < m := by omega
      have hmi : (m == i) = false := by simp; omega
      have ih := TF_put (t := t) hlt hS (fun j h1 h2 h3 h4 => hlast j h1 (by omega) h3 h4)
      simp only [TF, hmi, Bool.or_false]
      rw [ih]
      by_cases hd : (L.getD i default).dst = some t
      · rw [if_pos hd, if_pos hd]
        split
        · rename_i hc
          simp only [Bool.and_eq_true, beq_iff_eq] at hc
          have := hlast m hlt (Nat.lt_succ_self m) hc.2 hd
          rw [this] at hc; simp at hc
        · rfl
      · rw [if_neg hd, if_neg hd]
/-- The reserved places along the run; no other lengths. -/
theorem trace_heap (htr : ∀ i (h : i < L.length), stepD E L[i] (id0 + nadds (L.take i)) (st i) = some (st (i + 1))) (hres : ∀ o, id0 ≤ o → o < id0 + nadds L → (st 0).H.obj o = none) :
    ∀ i, i ≤ L.length → (st i).H.length = (st 0).H.length ∧ ∀ o, idAt L id0 i ≤ o → o < id0 + nadds L → (st i).H.obj o = none
  | 0, _ => ⟨rfl, fun o h1 h2 => hres o (by simpa [idAt, nadds] using h1) h2⟩
  | i + 1, hi => by
    obtain ⟨h1, h2⟩ := trace_heap htr hres i (by omega)
    have hid : idAt L id0 (i + 1) = idAt L id0 i + (if L[i].op.adds then 1 else 0) := by
      unfold idAt; rw [nadds_take_succ L i (by omega)]; omega
    rcases stepD_cases (htr i (by omega)) with ⟨-, v, H', he, hs⟩ | ⟨-, hs⟩
    · rw [hs]
      cases hadd : L[i].op.adds with
      | true =>
        obtain ⟨y, hy, -⟩ := opD_add hadd he
        subst hy
        refine ⟨by rw [put_length]; exact h1, ?_⟩
        intro o ho ho'
        rw [hid, if_pos hadd] at ho
        rw [obj_put_ne (by unfold idAt at ho; omega)]
        exact h2 o (by omega) ho'
      | false =>
        have hid' : idAt L id0 (i + 1) = idAt L id0 i := by rw [hid, hadd]; simp
        rw [hid']
        cases hp : L[i].op.pure with
        | true => obtain ⟨rfl, -⟩ := opD_pure hp he; exact ⟨h1, h2⟩
        | false =>
          cases hf : L[i].op.eff with
          | true =>
            obtain ⟨q1, q2, -⟩ := opD_eff hf he
            exact ⟨q1.trans h1, fun o ho ho' => q2 o (h2 o ho ho')⟩
          | false => obtain ⟨rfl, -⟩ := opD_read hp hf hadd he; exact ⟨h1, h2⟩
    · rw [hs]
      refine ⟨h1, fun o ho ho' => h2 o ?_ ho'⟩
      rw [hid] at ho; split at ho <;> omega
theorem cre_at {o : Nat} : ∀ {m i : Nat}, i < m → m ≤ L.length → (L.getD i default).op.adds = true → idAt L id0 i = o → cre L st id0 m o = (st (i + 1)).H.obj o
  | 0, i, h, _, _, _ => absurd h (Nat.not_lt_zero _)
  | m + 1, i, h, hm, ha, hid => by
    simp only [cre]
    by_cases him : i = m
    · subst him; rw [ha, hid]; simp
    · have hlt : i < m := by omega
      have hne : ¬ ((L.getD m default).op.adds && idAt L id0 m == o) = true := by
        intro hc
        simp only [Bool.and_eq_true, beq_iff_eq] at hc
        have e1 : idAt L id0 (i + 1) = idAt L id0 i + 1 := by
          have := nadds_take_succ L i (by omega)
          have hg : L.getD i default = L[i] := by simp [List.getD, List.getElem?_eq_getElem (show i < L.length by omega)]
          rw [hg] at ha
          unfold idAt; rw [this, if_pos ha]; omega
        have e2 : idAt L id0 (i + 1) ≤ idAt L id0 m := by
          unfold idAt
          have : ∀ a b, a ≤ b → nadds (L.take a) ≤ nadds (L.take b) := by
            intro a b hab
            have : L.take a = (L.take b).take a := by rw [List.take_take, Nat.min_eq_left hab]
            rw [this]; exact nadds_take_le _ _
          have := this (i + 1) m hlt
          omega
        omega
      rw [if_neg hne]
      exact cre_at hlt (by omega) ha hid
/-- Where no object changes, the overlaid heap stays. -/
theorem ov_step (htr : ∀ i (h : i < L.length), stepD E L[i] (id0 + nadds (L.take i)) (st i) = some (st (i + 1))) {i : Nat} (hi : i < L.length) (hne : (L.getD i default).op.eff = false ∨ gd (L.getD i default) (st i).fr = some false) (o : Nat) :
    ov L st id0 (i + 1) o = ov L st id0 i o := by
  have hg : L.getD i default = L[i] := by simp [List.getD, List.getElem?_eq_getElem hi]
  rw [hg] at hne
  have hid : idAt L id0 (i + 1) = idAt L id0 i + (if L[i].op.adds then 1 else 0) := by
    unfold idAt; rw [nadds_take_succ L i hi]; omega
  unfold ov
  have hsame : (st (i + 1)).H = (st i).H ∧ L[i].op.adds = false → (if idAt L id0 (i + 1) ≤ o ∧ o < id0 + nadds L then cre L st id0 L.length o else (st (i + 1)).H.obj o) = if idAt L id0 i ≤ o ∧ o < id0 + nadds L then cre L st id0 L.length o else (st i).H.obj o := by
    rintro ⟨h1, h2⟩
    rw [hid, h2, h1]; simp
  have hadds : L[i].op.adds = true → (o ≠ idAt L id0 i → (st (i + 1)).H.obj o = (st i).H.obj o) → (if idAt L id0 (i + 1) ≤ o ∧ o < id0 + nadds L then cre L st id0 L.length o else (st (i + 1)).H.obj o) = if idAt L id0 i ≤ o ∧ o < id0 + nadds L then cre L st id0 L.length o else (st i).H.obj o := by
    intro hadd h3
    by_cases ho : o = idAt L id0 i
    · subst ho
      rw [hid, if_pos hadd]
      have h1 : ¬ (idAt L id0 i + 1 ≤ idAt L id0 i ∧ idAt L id0 i < id0 + nadds L) := by omega
      have h2 : idAt L id0 i ≤ idAt L id0 i ∧ idAt L id0 i < id0 + nadds L := by
        refine ⟨Nat.le_refl _, ?_⟩
        have := nadds_take_le L (i + 1)
        rw [nadds_take_succ L i hi, if_pos hadd] at this
        unfold idAt; omega
      rw [if_neg h1, if_pos h2, cre_at hi (Nat.le_refl _) (by rw [hg]; exact hadd) rfl]
    · rw [hid, if_pos hadd, h3 ho]
      by_cases h4 : idAt L id0 i ≤ o ∧ o < id0 + nadds L
      · rw [if_pos h4, if_pos (by omega)]
      · rw [if_neg h4, if_neg (by omega)]
  rcases stepD_cases (htr i hi) with ⟨hgd, v, H', he, hs⟩ | ⟨-, hs⟩
  · have hne : L[i].op.eff = false := by
      rcases hne with h | h
      · exact h
      · rw [hgd] at h; cases h
    cases hadd : L[i].op.adds with
    | false =>
      refine hsame ⟨?_, hadd⟩
      rw [hs]
      cases hp : L[i].op.pure with
      | true => exact (opD_pure hp he).1
      | false => exact (opD_read hp hne hadd he).1
    | true =>
      obtain ⟨y, hy, -⟩ := opD_add hadd he
      exact hadds hadd (fun ho => by rw [hs, hy]; exact obj_put_ne (fun h => ho h.symm))
  · cases hadd : L[i].op.adds with
    | false => exact hsame ⟨by rw [hs], hadd⟩
    | true => exact hadds hadd (fun _ => by rw [hs])
end
theorem countP_lt {p p' : Nat → Bool} {i : Nat} : ∀ {l : List Nat}, (∀ j ∈ l, p' j = true → p j = true) → i ∈ l → p i = true → p' i = false → l.countP p' < l.countP p
  | [], _, h, _, _ => (List.not_mem_nil h).elim
  | x :: l, hle, hi, h1, h2 => by
    simp only [List.countP_cons]
    have hm : l.countP p' ≤ l.countP p := List.countP_mono_left (fun j hj => hle j (List.mem_cons_of_mem _ hj))
    rcases List.mem_cons.1 hi with rfl | hi
    · rw [h1, h2]; simp; omega
    · have := countP_lt (fun j hj => hle j (List.mem_cons_of_mem _ hj)) hi h1 h2
      have hx := hle x (List.mem_cons_self ..)
      cases hp : p' x with
      | true => rw [hx hp]; simp; omega
      | false => cases p x <;> simp <;> omega
theorem apart_spec {x y : IOper} (h : apartD x y = true) : (∀ d, x.dst = some d → d ∉ y.uses ∧ y.dst ≠ some d) ∧ (∀ d, y.dst = some d → d ∉ x.uses) ∧ (x.op.eff = true → y.op.pure = true) ∧ (y.op.eff = true → x.op.pure = true) := by
  unfold apartD at h
  simp only [Bool.and_eq_true] at h
  obtain ⟨⟨⟨h1, h2⟩, h3⟩, h4⟩ := h
  refine ⟨?_, ?_, ?_, ?_⟩
  · intro d hd
    rw [hd] at h1
    simpa using h1
  · intro d hd
    rw [hd] at h2
    simpa using h2
  · intro he
    rw [he] at h3
    simpa using h3
  · intro he
    rw [he] at h4
    simpa using h4
theorem eff_np {x : IOp} (h : x.eff = true) : x.pure = false ∧ x.adds = false := by
  cases x <;> simp_all [IOp.eff, IOp.pure, IOp.adds]
theorem adds_np {x : IOp} (h : x.adds = true) : x.pure = false ∧ x.eff = false := by
  cases x <;> simp_all [IOp.eff, IOp.pure, IOp.adds]
theorem idAt_lt {L : List IOper} {id0 i k : Nat} (hi : i < L.length) (ha : (L.getD i default).op.adds = true) (hk : i < k) : idAt L id0 i < idAt L id0 k := by
  have hg : L.getD i default = L[i] := by simp [List.getD, List.getElem?_eq_getElem hi]
  rw [hg] at ha
  have h1 := nadds_take_succ L i hi
  rw [if_pos ha] at h1
  have h2 : nadds (L.take (i + 1)) ≤ nadds (L.take k) := by
    have : L.take (i + 1) = (L.take k).take (i + 1) := by rw [List.take_take, Nat.min_eq_left hk]
    rw [this]; exact nadds_take_le _ _
  unfold idAt; omega
section
variable {P : Program} {N : Names} {C : Cx} {B base nt : Nat} {E : Env}
theorem wanted_gd {ops : Array Oper} {o : Oper} {fr : Fr} {w : World} {S : Stab} {β : Pl} {a : Act} (hf : FOK C w S β fr a) {x : IOp} {g : Option (Nat × Bool)} (hg : digG ops o.guard = some g) {b : Bool} (h : gd ⟨o.dst, x, g⟩ fr = some b) :
    Region.wanted o (yielded ops a.tmps) = b := by
  cases hgo : o.guard with
  | none =>
    rw [hgo] at hg
    simp only [digG, Option.some.injEq] at hg
    subst hg
    simp only [gd, Option.some.injEq] at h
    simp [Region.wanted, hgo, h]
  | some gw =>
    obtain ⟨j, want⟩ := gw
    rw [hgo] at hg
    simp only [digG] at hg
    obtain ⟨t, ht, hg⟩ := Option.bind_eq_some_iff.1 hg
    cases hg
    simp only [gd] at h
    have hyt := hf t
    have hy : yielded ops a.tmps j = match a.tmps[t]? with | some (.bool b) => some b | _ => none := by
      unfold yielded; rw [ht]; rfl
    split at h
    · rename_i b' hb
      rw [hb] at hyt
      have := bool_rel hyt
      have hyb : yielded ops a.tmps j = some b' := by
        rw [hy]
        rw [Array.getD_eq_getD_getElem?] at this
        cases hq : a.tmps[t]? with
        | none => rw [hq] at this; cases this
        | some z => rw [hq] at this; simp at this; subst this; rfl
      simp only [Option.some.injEq] at h
      rw [← h]
      simp only [Region.wanted, hgo, hyb]
      cases b' <;> cases want <;> rfl
    · rename_i hb
      rw [hb] at hyt
      have hyb : yielded ops a.tmps j = none := by
        rw [hy]
        rw [Array.getD_eq_getD_getElem?] at hyt
        cases hq : a.tmps[t]? with
        | none => rfl
        | some z =>
          rw [hq] at hyt
          simp only [Option.getD_some] at hyt
          cases hyt
          rfl
      simp only [Option.some.injEq] at h
      rw [← h]
      simp only [Region.wanted, hgo, hyb]
      rfl
    · cases h
theorem gd_congr {o : IOper} {fr fr' : Fr} (h : ∀ t ∈ o.uses, fr.get t = fr'.get t) : gd o fr = gd o fr' := by
  unfold gd
  cases hg : o.g with
  | none => rfl
  | some p =>
    obtain ⟨t, want⟩ := p
    simp only
    rw [h t (by simp [IOper.uses, hg])]
theorem draw_sim (hO : OrOK P C N E) (hN : NOK P N C E.G) {ops : Array Oper} {L : List IOper} (hL : L = ops.toList.map (digO P N ops)) {st : Nat → St} {id0 : Nat} {Q : Exit → Act → World → Prop} (hdst : ∀ o ∈ ops.toList, ∀ d, o.dst = some d → d < nt)
    (hok : drawOK ops.toList L = true) (htr : ∀ i (h : i < L.length), stepD E L[i] (id0 + nadds (L.take i)) (st i) = some (st (i + 1))) (hres : ∀ o, id0 ≤ o → o < id0 + nadds L → (st 0).H.obj o = none) (hR : id0 + nadds L ≤ (st 0).H.length) (hbase : base ≤ id0)
    {w0 : World} {S0 : Stab} {β0 : Pl} (hQ : ∀ a' w' S' β', Inv P N C E B base nt (st L.length) a' w' S' β' → Ext B w0 S0 w' S' → Lb base β0 β' → Q .normal a' w') :
    ∀ (fuel : Nat) (listed : Array Bool) (a : Act) (w : World) (S : Stab) (β : Pl) (fr : Fr) (Hc : Heap) (m : Nat), listed.size = L.length → (∀ j (h : j < ops.toList.length), listed.getD j false = true → ∀ e ∈ ops.toList[j].after.toList, Region.binds .any e = true → listed.getD e.on false = true) →
      (List.range L.length).countP (fun j => !listed.getD j false) ≤ fuel → Inv P N C E B base nt ⟨fr, Hc⟩ a w S β → (∀ t, fr.get t = TF L st (fun j => listed.getD j false) L.length t) → (∀ o, Hc.obj o = ov L st id0 m o) → Hc.length = (st 0).H.length → m ≤ L.length →
      (∀ e, e < L.length → (L.getD e default).op.eff = true → (listed.getD e false = true ↔ e < m)) → (∀ k, k < L.length → (L.getD k default).op.adds = true → listed.getD k false = false → β (idAt L id0 k) = .pend) →
      Ext B w0 S0 w S → Lb base β0 β → wpAny P .any ops Q fuel listed a w := by
  have hlen : L.length = ops.size := by rw [hL]; simp
  have hgetL : ∀ i (h : i < L.length), L.getD i default = L[i] := fun i h => by simp [List.getD, List.getElem?_eq_getElem h]
  -- what the check says
  have hchk : ∀ j, j < L.length → (∀ e ∈ (ops.toList.getD j default).after.toList, Region.binds .any e = true → e.on < j) ∧ ∀ i, i < j → ((bef ops.toList []).getD j 0).testBit i = true ∨ apartD (L.getD i default) (L.getD j default) = true := by
    intro j hj
    simp only [drawOK, List.all_eq_true, List.mem_range, Bool.and_eq_true, Bool.or_eq_true, Bool.not_eq_true', decide_eq_true_eq, Array.length_toList] at hok
    obtain ⟨h1, h2⟩ := hok j (by omega)
    refine ⟨fun e he hb => (h1 e he).resolve_left (by simp [hb]), h2⟩
  have hopsget : ∀ j (h : j < ops.toList.length), ops.toList.getD j default = ops.toList[j] := fun j h => by simp [List.getD, List.getElem?_eq_getElem h]
  obtain hheap := fun i hi => trace_heap htr hres i hi
  -- all listed: the end
  have done : ∀ (listed : Array Bool) (a : Act) (w : World) (S : Stab) (β : Pl) (fr : Fr) (Hc : Heap) (m : Nat), (∀ j, j < L.length → listed.getD j false = true) → Inv P N C E B base nt ⟨fr, Hc⟩ a w S β → (∀ t, fr.get t = TF L st (fun j => listed.getD j false) L.length t) → (∀ o, Hc.obj o = ov L st id0 m o) → Hc.length = (st 0).H.length → m ≤ L.length →
      (∀ e, e < L.length → (L.getD e default).op.eff = true → (listed.getD e false = true ↔ e < m)) → Ext B w0 S0 w S → Lb base β0 β → Q .normal a w := by
    intro listed a w S β fr Hc m hall hI hfr hHc hHl hm heff he hlb
    refine hQ a w S β ?_ he hlb
    have hmono : ∀ k, m + k ≤ L.length → ∀ o, ov L st id0 (m + k) o = ov L st id0 m o := by
      intro k
      induction k with
      | zero => intro _ o; rfl
      | succ k ih =>
        intro hk o
        rw [← ih (by omega) o]
        refine ov_step (i := m + k) htr (by omega) (.inl ?_) o
        cases hq : (L.getD (m + k) default).op.eff with
        | false => rfl
        | true => have := (heff (m + k) (by omega) hq).1 (hall _ (by omega)); omega
    have hend : ∀ o, Hc.obj o = (st L.length).H.obj o := by
      intro o
      rw [hHc o, ← hmono (L.length - m) (by omega) o]
      have e : m + (L.length - m) = L.length := by omega
      rw [e]
      unfold ov
      have : idAt L id0 L.length = id0 + nadds L := by unfold idAt; rw [List.take_length]
      rw [if_neg (by omega)]
    have hlenE : (st L.length).H.length = Hc.length := by rw [hHl]; exact (hheap L.length (Nat.le_refl _)).1
    refine ⟨hI.swf, hI.gok, hI.hB, ⟨?_, ?_, ?_, hI.hok.inj, ?_⟩, ?_, hI.size, hI.defers, by rw [hlenE]; exact hI.base⟩
    · intro o blk b k h
      rw [← hend]; exact hI.hok.live o blk b k h
    · intro o h; rw [← hend]; exact hI.hok.dead o h
    · intro o h; rw [← hend]; exact hI.hok.virt o h
    · intro o h; rw [hlenE] at h; exact hI.hok.out o h
    · intro t
      have e : (st L.length).fr.get t = fr.get t := by
        rw [TF_text htr t L.length (Nat.le_refl _), hfr t]
        exact TF_congr (fun j hj _ => (hall j hj).symm)
      rw [e]; exact hI.fok t
  intro fuel
  induction fuel with
  | zero =>
    intro listed a w S β fr Hc m hsz hcl hcnt hI hfr hHc hHl hm heff hpend he hlb
    have hall : ∀ j, j < L.length → listed.getD j false = true := by
      intro j hj
      have h0 : (List.range L.length).countP (fun j => !listed.getD j false) = 0 := by omega
      rw [List.countP_eq_zero] at h0
      have := h0 j (List.mem_range.2 hj)
      simpa using this
    refine ⟨?_, done listed a w S β fr Hc m hall hI hfr hHc hHl hm heff he hlb⟩
    rw [List.eq_nil_iff_forall_not_mem]
    intro j hj
    rw [mem_ready] at hj
    obtain ⟨h1, o, ho, -⟩ := hj
    have hj' : j < L.length := by rw [hlen]; exact (Array.getElem?_eq_some_iff.1 ho).1
    have h2 := hall j hj'
    have : listed.getD j true = listed.getD j false := by
      simp [Array.getD_eq_getD_getElem?, Array.getElem?_eq_getElem (show j < listed.size by omega)]
    rw [this, h2] at h1; cases h1
  | succ fuel ih =>
    intro listed a w S β fr Hc m hsz hcl hcnt hI hfr hHc hHl hm heff hpend he hlb
    have hgd : ∀ j, j < L.length → listed.getD j true = listed.getD j false := fun j hj => by
      simp [Array.getD_eq_getD_getElem?, Array.getElem?_eq_getElem (show j < listed.size by omega)]
    refine ⟨?_, ?_⟩
    · intro hnil
      refine done listed a w S β fr Hc m ?_ hI hfr hHc hHl hm heff he hlb
      intro j
      induction j using Nat.strongRecOn with
      | ind j ihj =>
        intro hj
        cases hl : listed.getD j false with
        | true => rfl
        | false =>
          exfalso
          have hjo : j < ops.size := by omega
          have : j ∈ Region.ready .any ops listed := by
            rw [mem_ready]
            refine ⟨by rw [hgd j hj]; exact hl, ops[j], by simp [hjo], ?_⟩
            intro e hem hb
            have hlt := (hchk j hj).1 e (by rw [hopsget j (by simpa using hjo)]; simpa using hem) hb
            exact ihj e.on hlt (by omega)
          rw [hnil] at this
          exact List.not_mem_nil this
    · intro i hi
      rw [mem_ready] at hi
      obtain ⟨hun, o, ho, hpre⟩ := hi
      have hio : i < ops.size := (Array.getElem?_eq_some_iff.1 ho).1
      have hiL : i < L.length := by omega
      have hoi : ops.toList[i]'(by simpa using hio) = o := by
        have := (Array.getElem?_eq_some_iff.1 ho).2
        simpa using this
      rw [hgd i hiL] at hun
      -- what precedes i is listed; what i precedes is not
      have hbefi : ∀ k, ((bef ops.toList []).getD i 0).testBit k = true → listed.getD k false = true :=
        bef_closed (S := fun k => listed.getD k false = true) hcl i (by simpa using hio) (fun e hem hb => hpre e (by rw [hoi] at hem; simpa using hem) hb)
      have hafter : ∀ j, j < L.length → ((bef ops.toList []).getD j 0).testBit i = true → listed.getD j false = false := by
        intro j hj hb
        cases hl : listed.getD j false with
        | false => rfl
        | true =>
          have := bef_closed (S := fun k => listed.getD k false = true) hcl j (by simp; omega) (fun e hem hb' => hcl j (by simp; omega) hl e hem hb') i hb
          rw [hun] at this; cases this
      have hgi := hgetL i hiL
      -- the operands are those of the text
      have huse : ∀ t ∈ (L.getD i default).uses, fr.get t = (st i).fr.get t := by
        intro t ht
        rw [hfr t, TF_text htr t i (by omega), ← TF_cut (show i ≤ L.length by omega)]
        refine TF_congr ?_
        intro j hj hd
        rcases Nat.lt_trichotomy j i with h1 | h1 | h1
        · have : listed.getD j false = true := by
            rcases (hchk i hiL).2 j h1 with hb | hap
            · exact hbefi j hb
            · exact absurd ht ((apart_spec hap).1 t hd).1
          rw [this]; simp [h1]
        · subst h1; rw [hun]; simp
        · have : listed.getD j false = false := by
            rcases (hchk j hj).2 i h1 with hb | hap
            · exact hafter j hj hb
            · exact absurd ht ((apart_spec hap).2.1 t hd)
          rw [this]; simp; omega
      -- the heap is that of the text, for whoever looks at it
      have hmi : (L.getD i default).op.pure = false → ∀ o, ov L st id0 m o = ov L st id0 i o := by
        intro hnp
        have key : ∀ a k, a + k ≤ L.length → (∀ e, a ≤ e → e < a + k → (L.getD e default).op.eff = false) → ∀ o, ov L st id0 (a + k) o = ov L st id0 a o := by
          intro a k
          induction k with
          | zero => intro _ _ o; rfl
          | succ k ihk =>
            intro hk hne o
            rw [← ihk (by omega) (fun e h1 h2 => hne e h1 (by omega)) o]
            exact ov_step (i := a + k) htr (by omega) (.inl (hne (a + k) (by omega) (by omega))) o
        rcases Nat.le_total m i with h1 | h1
        · intro o
          have := key m (i - m) (by omega) (fun e g1 g2 => by
            cases hq : (L.getD e default).op.eff with
            | false => rfl
            | true =>
              exfalso
              have hb : listed.getD e false = true := by
                rcases (hchk i hiL).2 e (by omega) with hb | hap
                · exact hbefi e hb
                · have := (apart_spec hap).2.2.1 hq
                  rw [hnp] at this; cases this
              have := (heff e (by omega) hq).1 hb
              omega) o
          rw [show m + (i - m) = i by omega] at this
          exact this.symm
        · intro o
          have := key i (m - i) (by omega) (fun e g1 g2 => by
            cases hq : (L.getD e default).op.eff with
            | false => rfl
            | true =>
              exfalso
              have hle : listed.getD e false = true := (heff e (by omega) hq).2 (by omega)
              have hne : e ≠ i := fun h => by subst h; rw [hun] at hle; cases hle
              have hb : listed.getD e false = false := by
                rcases (hchk e (by omega)).2 i (by omega) with hb | hap
                · exact hafter e (by omega) hb
                · have := (apart_spec hap).2.2.2 hq
                  rw [hnp] at this; cases this
              rw [hb] at hle; cases hle) o
          rw [show i + (m - i) = m by omega] at this
          exact this
      -- the round that is left
      have hmle : m ≤ L.length := hm
      have hset : ∀ j, (listed.setIfInBounds i true).getD j false = (listed.getD j false || j == i) := by
        intro j
        by_cases hji : j = i
        · subst hji
          simp [Array.getD_eq_getD_getElem?, show j < listed.size by omega]
        · rw [getD_set_ne false (fun e => hji e.symm)]
          simp [hji]
      have hsz' : (listed.setIfInBounds i true).size = L.length := by simp [hsz]
      have hcl' : ∀ j (h : j < ops.toList.length), (listed.setIfInBounds i true).getD j false = true → ∀ e ∈ ops.toList[j].after.toList, Region.binds .any e = true → (listed.setIfInBounds i true).getD e.on false = true := by
        intro j hj hl e hem hb
        rw [hset] at hl
        rw [hset]
        by_cases hji : j = i
        · subst hji
          rw [hpre e (by rw [hoi] at hem; simpa using hem) hb]; rfl
        · have : listed.getD j false = true := by simpa [hji] using hl
          rw [hcl j hj this e hem hb]; rfl
      have hcnt' : (List.range L.length).countP (fun j => !(listed.setIfInBounds i true).getD j false) ≤ fuel := by
        have := countP_lt (p := fun j => !listed.getD j false) (p' := fun j => !(listed.setIfInBounds i true).getD j false) (i := i) (l := List.range L.length) (fun j _ h => by
          simp only [hset] at h
          simp only [Bool.not_eq_true', Bool.or_eq_false_iff] at h ⊢
          exact h.1) (List.mem_range.2 hiL) (by simp only [hun]; rfl) (by simp only [hset]; simp)
        omega
      -- where the effects are
      have heff' : ∀ e, e < L.length → (L.getD e default).op.eff = true → ((listed.setIfInBounds i true).getD e false = true ↔ e < (if (L.getD i default).op.eff then i + 1 else m)) := by
        intro e hel hee
        rw [hset]
        by_cases hie : (L.getD i default).op.eff = true
        · rw [if_pos hie]
          rcases Nat.lt_trichotomy e i with h1 | h1 | h1
          · have hb : listed.getD e false = true := by
              rcases (hchk i hiL).2 e h1 with hb | hap
              · exact hbefi e hb
              · have := (apart_spec hap).2.2.1 hee
                rw [(eff_np hie).1] at this; cases this
            rw [hb]; simp; omega
          · subst h1; simp
          · have hb : listed.getD e false = false := by
              rcases (hchk e hel).2 i h1 with hb | hap
              · exact hafter e hel hb
              · have := (apart_spec hap).2.2.1 hie
                rw [(eff_np hee).1] at this; cases this
            have : (e == i) = false := by simp; omega
            rw [hb, this]; simp; omega
        · rw [if_neg hie]
          have hne : e ≠ i := fun h => hie (h ▸ hee)
          have : (e == i) = false := by simpa using hne
          rw [this, Bool.or_false]
          exact heff e hel hee
      have hm' : (if (L.getD i default).op.eff then i + 1 else m) ≤ L.length := by split <;> omega
      -- frames
      have hfr' : ∀ v, valAt L st i = v → ∀ t, (putD fr (L.getD i default).dst v).get t = TF L st (fun j => (listed.setIfInBounds i true).getD j false) L.length t := by
        intro v hv t
        have e1 : TF L st (fun j => (listed.setIfInBounds i true).getD j false) L.length t = TF L st (fun j => listed.getD j false || j == i) L.length t := TF_congr (fun j _ _ => hset j)
        rw [e1, TF_put hiL hun, get_putD]
        · split
          · exact hv.symm
          · exact hfr t
        · intro j h1 h2 h3 h4
          rcases (hchk j h2).2 i h1 with hb | hap
          · exact hafter j h2 hb
          · exact absurd h3 ((apart_spec hap).1 t h4).2
      have hvalAt : ∀ v H', st (i + 1) = ⟨putD (st i).fr (L.getD i default).dst v, H'⟩ → (L.getD i default).dst ≠ none → valAt L st i = v := by
        intro v H' hs hd
        unfold valAt
        cases hd' : (L.getD i default).dst with
        | none => exact absurd hd' hd
        | some d => simp only; rw [hs, hd']; simp only [get_putD, if_true]
      have hfr2 : ∀ v H', st (i + 1) = ⟨putD (st i).fr (L.getD i default).dst v, H'⟩ → ∀ t, (putD fr (L.getD i default).dst v).get t = TF L st (fun j => (listed.setIfInBounds i true).getD j false) L.length t := by
        intro v H' hs t
        cases hd' : (L.getD i default).dst with
        | none =>
          have := hfr' (valAt L st i) rfl t
          rw [hd'] at this
          exact this
        | some d =>
          have := hfr' v (hvalAt v H' hs (by rw [hd']; simp)) t
          rw [hd'] at this
          exact this
      have hstep := htr i hiL
      rw [← hgi] at hstep
      have hdo : (L.getD i default).dst = o.dst := by
        rw [hgi]
        simp only [hL, List.getElem_map, hoi]
        unfold digO; split <;> rfl
      have hdig : (∃ x g, digOp P N o = some x ∧ digG ops o.guard = some g ∧ L.getD i default = ⟨o.dst, x, g⟩) ∨ L.getD i default = ⟨o.dst, .bad, none⟩ := by
        have : L.getD i default = digO P N ops o := by
          rw [hgi]
          simp only [hL, List.getElem_map, hoi]
        rw [this]
        unfold digO
        split
        · exact .inl ⟨_, _, by assumption, by assumption, rfl⟩
        · exact .inr rfl
      have hHle : (L.getD i default).op.pure = false → Hle (st i).H Hc := by
        intro hnp
        refine ⟨by rw [(hheap i (by omega)).1, hHl], ?_⟩
        intro o' x' hx'
        rw [hHc o', hmi hnp o']
        unfold ov
        split
        · rename_i hr
          rw [(hheap i (by omega)).2 o' hr.1 hr.2] at hx'; cases hx'
        · exact hx'
      have hoN : o.dst = none ∨ ∃ d, o.dst = some d ∧ d < nt := by
        cases hd : o.dst with
        | none => exact .inl rfl
        | some d => exact .inr ⟨d, rfl, hdst o (by rw [← hoi]; simp) d hd⟩
      have hinv : ∀ {v : PV} {H' : Heap} {u : Value} {w' : World} {S' : Stab} {β' : Pl}, Ext B w S w' S' → Swf w' S' → HOK C B w' S' β' H' → Later β β' → RelV C w' S' β' v u → Hc.length ≤ H'.length →
          Inv P N C E B base nt ⟨putD fr o.dst v, H'⟩ (a.put o.dst u) w' S' β' := by
        intro v H' u w' S' β' e1 e2 e3 e4 e5 e6
        refine ⟨e2, hI.gok.ext e1, Nat.le_trans hI.hB e1.below.size, e3, ?_, ?_, ?_, Nat.le_trans hI.base e6⟩
        · rcases hoN with hd | ⟨d, hd, hdn⟩
          · rw [hd]; exact hI.fok.ext e1 e4
          · rw [hd]; exact (hI.fok.ext e1 e4).put (by rw [hI.size]; exact hdn) e5
        · cases hd : o.dst with
          | none => exact hI.size
          | some d => simp [Act.put, hI.size]
        · cases hd : o.dst <;> exact hI.defers
      rcases hdig with ⟨x, g, hx, hg, hLi⟩ | hbad
      · unfold wpOp
        rw [ho]
        simp only
        rcases stepD_cases hstep with ⟨hgt, v, H', hev, hst'⟩ | ⟨hgf, hst'⟩
        · -- it runs
          have hgfr : gd (L.getD i default) fr = some true := by rw [gd_congr huse]; exact hgt
          rw [hLi] at hgfr
          have hw := wanted_gd (ops := ops) (o := o) hI.fok hg hgfr
          rw [if_pos hw]
          refine .inl ?_
          have hev1 : evalOpD E (rd E fr) (st i).H (idAt L id0 i) (L.getD i default).op = some (v, H') := by
            rw [opD_congr (fr := fr) (fr' := (st i).fr) (fun t ht => huse t (List.mem_append.2 (.inl ht)))]; exact hev
          have hadd1 : (L.getD i default).op.adds = true → β (idAt L id0 i) = .pend ∧ idAt L id0 i < Hc.length := by
            intro ha
            refine ⟨hpend i hiL ha hun, ?_⟩
            have := idAt_lt (id0 := id0) hiL ha (Nat.lt_add_one i)
            have h2 : idAt L id0 (i + 1) ≤ id0 + nadds L := by unfold idAt; have := nadds_take_le L (i + 1); omega
            omega
          -- run at this frame and this heap
          have hrun : ∃ Hc', evalOpD E (rd E fr) Hc (idAt L id0 i) (L.getD i default).op = some (v, Hc') ∧ Hc'.length = Hc.length ∧ ∀ o', Hc'.obj o' = ov L st id0 (if (L.getD i default).op.eff then i + 1 else m) o' := by
            cases hp : (L.getD i default).op.pure with
            | true =>
              have he : (L.getD i default).op.eff = false := by
                cases he : (L.getD i default).op.eff with
                | false => rfl
                | true => rw [(eff_np he).1] at hp; cases hp
              rw [he]
              exact ⟨Hc, (opD_pure hp hev1).2 Hc, rfl, hHc⟩
            | false =>
              have hle := hHle hp
              cases he : (L.getD i default).op.eff with
              | true =>
                obtain ⟨q1, q2, q3⟩ := opD_eff he hev1
                obtain ⟨Hc', r1, r2, r3, r4⟩ := q3 Hc hle
                refine ⟨Hc', r1, r2, ?_⟩
                intro o'
                simp only [if_true]
                have hid : idAt L id0 (i + 1) = idAt L id0 i := by
                  unfold idAt
                  rw [nadds_take_succ L i hiL, ← hgi, (eff_np he).2]; simp
                have e1 : Hc.obj o' = ov L st id0 i o' := by rw [hHc o', hmi hp o']
                have e2 : (st (i + 1)).H = H' := by rw [hst']
                unfold ov at e1 ⊢
                rw [hid, e2]
                by_cases hr : idAt L id0 i ≤ o' ∧ o' < id0 + nadds L
                · rw [if_pos hr] at e1 ⊢
                  rw [r3 o' ((hheap i (by omega)).2 o' hr.1 hr.2)]; exact e1
                · rw [if_neg hr] at e1 ⊢
                  by_cases hn : (st i).H.obj o' = none
                  · rw [r3 o' hn, q2 o' hn, e1, hn]
                  · exact r4 o' hn
              | false =>
                simp only [Bool.false_eq_true, if_false]
                cases ha : (L.getD i default).op.adds with
                | false =>
                  obtain ⟨-, q2⟩ := opD_read hp he ha hev1
                  exact ⟨Hc, q2 Hc hle, rfl, hHc⟩
                | true =>
                  obtain ⟨y, q1, q2⟩ := opD_add ha hev1
                  refine ⟨_, q2 Hc hle, put_length _ _ _, ?_⟩
                  intro o'
                  by_cases ho' : o' = idAt L id0 i
                  · subst ho'
                    rw [obj_put_same (hadd1 ha).2, hmi hp]
                    have h2 : idAt L id0 i ≤ idAt L id0 i ∧ idAt L id0 i < id0 + nadds L := by
                      refine ⟨Nat.le_refl _, ?_⟩
                      have := nadds_take_le L (i + 1)
                      rw [nadds_take_succ L i hiL, ← hgi, if_pos ha] at this
                      unfold idAt; omega
                    unfold ov
                    rw [if_pos h2, cre_at hiL (Nat.le_refl _) ha rfl, hst', q1]
                    simp only
                    rw [obj_put_same]
                    have := (hheap i (by omega)).1
                    rw [this, ← hHl]; exact (hadd1 ha).2
                  · rw [obj_put_ne (fun h => ho' h.symm)]; exact hHc o'
          obtain ⟨Hc', hr1, hr2, hr3⟩ := hrun
          have hev2 : evalOp E (rd E fr) Hc (if x.adds then idAt L id0 i else Hc.length) x = some (v, Hc') := by
            have := opD_op hr1
            rw [hLi] at this
            cases ha : x.adds with
            | true => exact this
            | false => rw [← this]; exact evalOp_id ha _ _
          have hadd2 : x.adds = (L.getD i default).op.adds := by rw [hLi]
          refine op_sound hO hN hI.gok hI.swf hI.hB hI.hok hI.fok hx ?_ hev2 ?_
          · intro ha
            rw [if_pos ha]
            exact hadd1 (hadd2 ▸ ha)
          · intro u w' S' β' e1 e2 e3 e4 e5 e6 e7
            refine ih (listed.setIfInBounds i true) (a.put o.dst u) w' S' β' (putD fr o.dst v) Hc' _ hsz' hcl' hcnt' (hinv e1 e2 e3 e4 e5 e6) ?_ hr3 (hr2.trans hHl) hm' heff' ?_ (he.trans e1) (hlb.trans ?_)
            · rw [← hdo]; exact hfr2 v H' hst'
            · intro k hk hka hkl
              rw [hset] at hkl
              simp only [Bool.or_eq_false_iff, beq_eq_false_iff_ne] at hkl
              have h1 := hpend k hk hka hkl.1
              have h2 : idAt L id0 k < Hc.length := by
                have := idAt_lt (id0 := id0) hk hka (Nat.lt_add_one k)
                have h2 : idAt L id0 (k + 1) ≤ id0 + nadds L := by unfold idAt; have := nadds_take_le L (k + 1); omega
                omega
              refine e7 _ h2 ?_ h1
              split
              · rename_i ha
                rw [hadd2] at ha
                rcases Nat.lt_or_gt_of_ne hkl.2 with hlt | hgt
                · have := idAt_lt (id0 := id0) hk hka hlt; omega
                · have := idAt_lt (id0 := id0) hiL ha hgt; omega
              · omega
            · intro o' ho'
              have hb : base ≤ Hc.length := hI.base
              refine ⟨e4 o', fun hp => e7 o' (Nat.lt_of_lt_of_le ho' hb) ?_ hp⟩
              split
              · unfold idAt; omega
              · omega
        · -- it is passed over
          have hgfr : gd (L.getD i default) fr = some false := by rw [gd_congr huse]; exact hgf
          rw [hLi] at hgfr
          have hw := wanted_gd (ops := ops) (o := o) hI.fok hg hgfr
          rw [hw]
          simp only [Bool.false_eq_true, if_false]
          refine ih (listed.setIfInBounds i true) (a.put o.dst undef) w S β (putD fr o.dst (.t [])) Hc _ hsz' hcl' hcnt' (hinv (Ext.refl _ _ _) hI.swf hI.hok (Later.refl _) (.t [] [] rfl (fun j h => absurd h (Nat.not_lt_zero _))) (Nat.le_refl _)) ?_ ?_ hHl hm' heff' ?_ he hlb
          · rw [← hdo]; exact hfr2 _ _ hst'
          · intro o'
            rw [hHc o']
            split
            · rename_i hee
              rw [ov_step htr hiL (.inr hgf) o', hmi (eff_np hee).1 o']
            · rfl
          · intro k hk hka hkl
            rw [hset] at hkl
            simp only [Bool.or_eq_false_iff] at hkl
            exact hpend k hk hka hkl.1
      · exfalso
        rw [hbad] at hstep
        simp [stepD, evalOpD] at hstep
theorem hok_over {w : World} {S : Stab} {β : Pl} {H H' : Heap} (hH : HOK C B w S β H) (hl : H'.length = H.length) (h : ∀ o, β o ≠ .pend → H'.obj o = H.obj o) : HOK C B w S β H' := by
  refine ⟨?_, ?_, ?_, hH.inj, ?_⟩
  · intro o blk b k hb
    rw [h o (by rw [hb]; simp)]; exact hH.live o blk b k hb
  · intro o hb
    rw [h o (by rw [hb]; simp)]; exact hH.dead o hb
  · intro o hb
    rw [h o (by rw [hb]; simp)]; exact hH.virt o hb
  · intro o ho
    exact hH.out o (by omega)
theorem obj_none_of_le {H : Heap} {o : Nat} (h : H.length ≤ o) : H.obj o = none := by
  unfold Heap.obj
  rw [List.getElem?_eq_none h]
theorem obj_grow (H : Heap) (n o : Nat) : Heap.obj (H ++ List.replicate n none) o = H.obj o := by
  rcases Nat.lt_or_ge o H.length with h | h
  · unfold Heap.obj
    rw [List.getElem?_append_left h]
  · rw [obj_none_of_le h]
    unfold Heap.obj
    rw [List.getElem?_append_right h, List.getElem?_replicate]
    by_cases hc : o - H.length < n
    · rw [if_pos hc]
    · rw [if_neg hc]
theorem obj_tab (f : Nat → Option Obj) (n o : Nat) : Heap.obj ((List.range n).map f) o = if o < n then f o else none := by
  unfold Heap.obj
  rw [List.getElem?_map]
  by_cases h : o < n
  · rw [List.getElem?_range h, if_pos h]
    rfl
  · rw [if_neg h, List.getElem?_eq_none (by simp; omega)]
    rfl
/-- A region that draws its order. -/
theorem regD_sound (hO : OrOK P C N E) (hN : NOK P N C E.G) {id : Nat} {ops : Array Oper} {s s' : St} {a : Act} {w : World} {S : Stab} {β : Pl} {Q : Exit → Act → World → Prop} (hdst : ∀ o ∈ ops.toList, ∀ d, o.dst = some d → d < nt)
    (hok : drawOK ops.toList (ops.toList.map (digO P N ops)) = true) (he : evalOpsD E (ops.toList.map (digO P N ops)) s.H.length ⟨s.fr, s.H ++ List.replicate (nadds (ops.toList.map (digO P N ops))) none⟩ = some s') (hI : Inv P N C E B base nt s a w S β)
    (hQ : ∀ a' w' S' β', Inv P N C E B base nt s' a' w' S' β' → Ext B w S w' S' → Lb base β β' → Q .normal a' w') : (Code.region id ops true).wp P Q a w := by
  refine wp_region_any hN.mixed ?_
  obtain ⟨st, h0, h1, h2⟩ := trace_exists _ _ _ _ he
  have hd : (w.drew : World) = { w with drawn := w.drawn + 1 } := rfl
  rw [← hd]
  have hlenL : (ops.toList.map (digO P N ops)).length = ops.size := by simp
  have hob : ∀ o, (st 0).H.obj o = s.H.obj o := by
    intro o
    rw [h0]
    exact obj_grow _ _ _
  have hlen0 : (st 0).H.length = s.H.length + nadds (ops.toList.map (digO P N ops)) := by rw [h0]; simp
  have hnone : ∀ o, s.H.length ≤ o → s.H.obj o = none := fun o h => obj_none_of_le h
  refine draw_sim (B := B) (base := base) (nt := nt) (st := st) (id0 := s.H.length) (w0 := w) (S0 := S) (β0 := β) hO hN rfl hdst hok h2 ?_ ?_ hI.base ?_ ops.size (Array.replicate ops.size false) a w.drew S β (st 0).fr ((List.range (st 0).H.length).map (ov (ops.toList.map (digO P N ops)) st s.H.length 0)) 0 (by simp) ?_ ?_ ?_ ?_ ?_ (by simp) (Nat.zero_le _) ?_ ?_ (drew_ext (B := B)) (Lb.refl _ _)
  · intro o h _; rw [hob]; exact hnone o h
  · rw [hlen0]; exact Nat.le_refl _
  · intro a' w' S' β' hI' e1 e2
    rw [h1] at hI'
    exact hQ a' w' S' β' hI' e1 e2
  · intro j hj hl
    simp [Array.getD_eq_getD_getElem?, Array.getElem?_replicate] at hl
    split at hl <;> simp at hl
  · refine Nat.le_trans (List.countP_le_length) ?_
    simp
  · have hg := hok_grow hI.hok (nadds (ops.toList.map (digO P N ops)))
    have hfr0 : (st 0).fr = s.fr := by rw [h0]
    have hH0 : (st 0).H = s.H ++ List.replicate (nadds (ops.toList.map (digO P N ops))) none := by rw [h0]
    refine ⟨hI.swf.ext (drew_ext (B := B)), hI.gok.ext (drew_ext (B := B)), hI.hB, ?_, ?_, hI.size, hI.defers, ?_⟩
    · refine hok_over hg.drew (by rw [List.length_map, List.length_range, hH0]) ?_
      intro o ho
      have hlt : o < s.H.length := by
        rcases Nat.lt_or_ge o s.H.length with h | h
        · exact h
        · exact absurd (hI.hok.out o h) ho
      show Heap.obj (List.map _ _) o = _
      rw [obj_tab, if_pos (by omega), ← hH0]
      unfold ov
      rw [if_neg (by unfold idAt; omega)]
    · show FOK C w.drew S β (st 0).fr a
      rw [hfr0]
      exact hI.fok.ext (drew_ext (B := B)) (Later.refl _)
    · have := hI.base
      show base ≤ (List.map _ _).length
      rw [List.length_map, List.length_range]; omega
  · intro t
    have : ∀ m, TF (ops.toList.map (digO P N ops)) st (fun j => (Array.replicate ops.size false).getD j false) m t = (st 0).fr.get t := by
      intro m
      induction m with
      | zero => rfl
      | succ m ih =>
        have hf : (Array.replicate ops.size false).getD m false = false := by
          simp [Array.getD_eq_getD_getElem?, Array.getElem?_replicate]
          split <;> rfl
        simp only [TF, hf, Bool.false_and, Bool.false_eq_true, if_false]
        exact ih
    exact (this _).symm
  · intro o
    rw [obj_tab]
    by_cases ho : o < (st 0).H.length
    · rw [if_pos ho]
    · rw [if_neg ho]
      unfold ov
      rw [if_neg (by omega), hob, hnone o (by omega)]
  · intro e _ _
    have hf : (Array.replicate ops.size false).getD e false = false := by
      simp [Array.getD_eq_getD_getElem?, Array.getElem?_replicate]
      split <;> rfl
    rw [hf]; simp
  · intro k hk _ _
    refine hI.hok.out _ ?_
    unfold idAt; omega
end
end Go.Sim
