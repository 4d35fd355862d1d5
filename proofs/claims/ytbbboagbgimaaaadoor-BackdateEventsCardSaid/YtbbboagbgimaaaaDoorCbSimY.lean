/- Collecting; code; functions; the table. -/
import Derived.Test.YtbbboagbgimaaaaDoorCbSimXE
open Go.RowKit
namespace Go.Sim
section
variable {P : Program} {N : Names} {C : Cx} {w : World} {S : Stab} {β : Pl} {B : Nat} {H : Heap} {a : Act} {E : Env}
theorem reach_ok (H : Heap) (base : Nat) : ∀ (n : Nat) (acc todo : List Nat), acc.Nodup → (∀ o ∈ acc, base ≤ o) → (reach H base n acc todo).Nodup ∧ ∀ o ∈ reach H base n acc todo, base ≤ o
  | 0, acc, _, h1, h2 => ⟨h1, h2⟩
  | _ + 1, acc, [], h1, h2 => ⟨h1, h2⟩
  | n + 1, acc, o :: todo, h1, h2 => by
    simp only [reach]
    split
    · exact reach_ok H base n acc todo h1 h2
    · split
      · exact reach_ok H base n acc todo h1 h2
      · rename_i hlt hc
        refine reach_ok H base n _ _ ?_ ?_
        · rw [List.nodup_append]
          refine ⟨h1, by simp, ?_⟩
          intro x hx y hy
          simp at hy
          subst hy
          rintro rfl
          simp at hc
          exact hc hx
        · intro x hx
          rcases List.mem_append.1 hx with hx | hx
          · exact h2 x hx
          · simp at hx; omega
/-- The places behind a collection. -/
def gcβ (β : Pl) (base : Nat) (ids : List Nat) : Pl := fun n => if n < base then β n else match ids[n - base]? with | some o => β o | none => .pend
theorem place_β {base : Nat} {ids : List Nat} {o o' : Nat} (h : place base ids o = some o') : gcβ β base ids o' = β o := by
  by_cases hlt : o < base
  · simp only [place, hlt, if_true, Option.some.injEq] at h
    subst h
    simp [gcβ, hlt]
  · simp only [place, hlt, if_false, Option.map_eq_some_iff] at h
    obtain ⟨i, hi, rfl⟩ := h
    have : ids[i]? = some o := by
      rw [List.idxOf?_eq_some_iff] at hi
      obtain ⟨h1, h2, -⟩ := hi
      rw [List.getElem?_eq_getElem h1]
      simpa using h2
    have e : ¬ (base + i < base) := by omega
    simp only [gcβ, e, if_false, Nat.add_sub_cancel_left, this]
theorem PV.renL_length (ρ : Nat → Option Nat) : ∀ cs : List PV, (PV.renL ρ cs).length = cs.length
  | [] => rfl
  | v :: vs => by simp [PV.renL, PV.renL_length ρ vs]
theorem PV.renL_get (ρ : Nat → Option Nat) : ∀ (cs : List PV) (j : Nat) (h : j < cs.length) (h' : j < (PV.renL ρ cs).length), (PV.renL ρ cs)[j] = (cs[j]).ren ρ
  | [], j, h, _ => absurd h (Nat.not_lt_zero _)
  | v :: vs, 0, _, _ => rfl
  | v :: vs, j + 1, h, h' => by
    simp only [PV.renL, List.getElem_cons_succ]
    exact PV.renL_get ρ vs j _ _
theorem ren_rel {β' : Pl} {ρ : Nat → Option Nat} (hρ : ∀ o o', ρ o = some o' → β' o' = β o) {x : PV} {v : Value} (h : RelV C w S β x v) : RelV C w S β' (x.ren ρ) v := by
  induction h with
  | u v => exact .u v
  | d x v h => exact .d x v h
  | a cs vs h1 h2 _ ih =>
    refine .a _ vs (by rw [PV.renL_length]; exact h1) h2 ?_
    intro j hj hj'
    rw [PV.renL_length] at hj
    rw [PV.renL_get ρ cs j hj]
    exact ih j hj hj'
  | t cs vs h1 _ ih =>
    refine .t _ vs (by rw [PV.renL_length]; exact h1) ?_
    intro j hj hj'
    rw [PV.renL_length] at hj
    rw [PV.renL_get ρ cs j hj]
    exact ih j hj hj'
  | r o k off len t v h0 h =>
    simp only [PV.ren]
    cases ho : ρ o with
    | none => exact .u v
    | some o' =>
      refine .r _ _ _ _ _ _ h0 ?_
      unfold RelRf at *
      rw [hρ o o' ho]; exact h
  | p o i c v h0 h =>
    simp only [PV.ren]
    cases ho : ρ o with
    | none => exact .u v
    | some o' =>
      refine .p _ _ _ _ h0 ?_
      unfold RelPt at *
      rw [hρ o o' ho]; exact h
  | q x k c blk off f h1 h2 => exact .q x k c blk off f h1 h2
  | f n cs vs h1 _ ih =>
    refine .f n _ vs (by rw [PV.renL_length]; exact h1) ?_
    intro j hj hj'
    rw [PV.renL_length] at hj
    rw [PV.renL_get ρ cs j hj]
    exact ih j hj hj'
theorem gcH_length {ρ : Nat → Option Nat} {base : Nat} {ids : List Nat} (hb : base ≤ H.length) : (gcH ρ H base ids).length = base + ids.length := by
  simp [gcH]; omega
theorem gcH_obj {ρ : Nat → Option Nat} {base : Nat} {ids : List Nat} (hb : base ≤ H.length) (n : Nat) : Heap.obj (gcH ρ H base ids) n = if n < base then (H.obj n).map (·.ren ρ) else match ids[n - base]? with | some o => (H.obj o).map (·.ren ρ) | none => none := by
  show (match (gcH ρ H base ids)[n]? with | some x => x | none => none) = _
  by_cases hn : n < base
  · have e : (gcH ρ H base ids)[n]? = (H[n]?).map (·.map (·.ren ρ)) := by
      unfold gcH
      rw [List.getElem?_append_left (by simp; omega), List.getElem?_map, List.getElem?_take, if_pos hn]
    rw [e, if_pos hn]
    unfold Heap.obj
    cases H[n]? with
    | none => rfl
    | some x => cases x <;> rfl
  · have e : (gcH ρ H base ids)[n]? = (ids[n - base]?).map fun o => (H.obj o).map (·.ren ρ) := by
      unfold gcH
      have hl : (List.map (Option.map (·.ren ρ)) (List.take base H)).length = base := by simp; omega
      rw [List.getElem?_append_right (by rw [hl]; omega), hl, List.getElem?_map]
    rw [e, if_neg hn]
    cases ids[n - base]? <;> rfl
theorem OCells.ren {β' : Pl} {ρ : Nat → Option Nat} (hρ : ∀ o o', ρ o = some o' → β' o' = β o) {cells : Array Value} {blk base : Nat} {x : Obj} (h : OCells C w S β cells blk base x) : OCells C w S β' cells blk base (x.ren ρ) := by
  cases x with
  | box k v =>
    obtain ⟨h0, f, h1, h2, h3⟩ := h
    exact ⟨h0, f, h1, ren_rel hρ h2, h3⟩
  | sl k ro es => exact h
theorem Obj.ren_shape (ρ : Nat → Option Nat) (x : Obj) : (x.ren ρ).shape = x.shape := by cases x <;> rfl
theorem hok_gc (hH : HOK C B w S β H) {base : Nat} (hb : base ≤ H.length) {ids : List Nat} (hn : ids.Nodup) (hi : ∀ o ∈ ids, base ≤ o) : HOK C B w S (gcβ β base ids) (gcH (place base ids) H base ids) := by
  have hρ : ∀ o o', place base ids o = some o' → gcβ β base ids o' = β o := fun o o' h => place_β h
  -- where an object comes from
  have from_ : ∀ n, gcβ β base ids n ≠ .pend → ∃ o, gcβ β base ids n = β o ∧ Heap.obj (gcH (place base ids) H base ids) n = (H.obj o).map (·.ren (place base ids)) ∧ ((n < base ∧ o = n) ∨ (base ≤ n ∧ ids[n - base]? = some o)) := by
    intro n h
    by_cases hlt : n < base
    · exact ⟨n, by simp [gcβ, hlt], by rw [gcH_obj hb, if_pos hlt], .inl ⟨hlt, rfl⟩⟩
    · cases ho : ids[n - base]? with
      | none => simp [gcβ, hlt, ho] at h
      | some o => exact ⟨o, by simp [gcβ, hlt, ho], by rw [gcH_obj hb, if_neg hlt, ho], .inr ⟨by omega, rfl⟩⟩
  refine ⟨?_, ?_, ?_, ?_, ?_⟩
  · intro n blk b k h
    obtain ⟨o, h1, h2, -⟩ := from_ n (by rw [h]; simp)
    rw [h1] at h
    obtain ⟨a1, x, cells, e, a2, a3, a4, a5⟩ := hH.live o blk b k h
    exact ⟨a1, x.ren (place base ids), cells, e, by rw [h2, a2]; rfl, by rw [Obj.ren_shape]; exact a3, a4, a5.ren hρ⟩
  · intro n h
    obtain ⟨o, h1, h2, -⟩ := from_ n (by rw [h]; simp)
    rw [h1] at h
    rw [h2, hH.dead o h]; rfl
  · intro n h
    obtain ⟨o, h1, h2, -⟩ := from_ n (by rw [h]; simp)
    rw [h1] at h
    obtain ⟨k, ro, h3⟩ := hH.virt o h
    exact ⟨k, ro, by rw [h2, h3]; rfl⟩
  · intro n n' blk b k b' k' h h'
    obtain ⟨o, h1, -, h3⟩ := from_ n (by rw [h]; simp)
    obtain ⟨o', h1', -, h3'⟩ := from_ n' (by rw [h']; simp)
    rw [h1] at h
    rw [h1'] at h'
    have hoo := hH.inj o o' blk b k b' k' h h'
    subst hoo
    rcases h3 with ⟨q1, rfl⟩ | ⟨q1, q2⟩
    · rcases h3' with ⟨p1, rfl⟩ | ⟨p1, p2⟩
      · rfl
      · have := hi _ (List.mem_of_getElem? p2); omega
    · rcases h3' with ⟨p1, rfl⟩ | ⟨p1, p2⟩
      · have := hi _ (List.mem_of_getElem? q2); omega
      · obtain ⟨i1, i2⟩ := List.getElem?_eq_some_iff.1 q2
        obtain ⟨j1, j2⟩ := List.getElem?_eq_some_iff.1 p2
        have hpw := List.pairwise_iff_getElem.1 hn
        rcases Nat.lt_trichotomy (n - base) (n' - base) with hlt | heq | hgt
        · exact absurd (i2.trans j2.symm) (hpw _ _ i1 j1 hlt)
        · omega
        · exact absurd (j2.trans i2.symm) (hpw _ _ j1 i1 hgt)
  · intro n h
    rw [gcH_length hb] at h
    have h1 : ¬ n < base := by omega
    have h2 : ids[n - base]? = none := by rw [List.getElem?_eq_none_iff]; omega
    simp [gcβ, h1, h2]
theorem lb_gc (base : Nat) (ids : List Nat) : Lb base β (gcβ β base ids) := fun o ho => by
  have : gcβ β base ids o = β o := by simp [gcβ, ho]
  exact ⟨.inl this, fun h => this.trans h⟩
theorem gc_inv {base nt : Nat} {s : St} (hI : Inv P N C E B base nt s a w S β) (live : List Nat) : ∃ β', Inv P N C E B base nt (gc live base s) a w S β' ∧ Lb base β β' := by
  obtain ⟨h1, h2⟩ := reach_ok s.H base 1000 [] (frRefs (Fr.keep live s.fr) ++ heapRefs (s.H.take base)) (by simp) (by simp)
  refine ⟨_, ⟨hI.swf, hI.gok, hI.hB, hok_gc hI.hok hI.base h1 h2, ?_, hI.size, hI.defers, ?_⟩, lb_gc _ _⟩
  · intro t
    simp only [gc]
    rw [get_ren]
    refine ren_rel (fun o o' h => place_β h) ?_
    rcases get_keep live t s.fr with h | h
    · rw [h]; exact hI.fok t
    · rw [h]; exact .u _
  · simp only [gc]
    rw [gcH_length hI.base]; omega
def exOf : Ex → Exit
  | .norm => .normal
  | .exit id => .exit id
  | .ret => .ret
/-- Every slot that is written lies in the frame. -/
def dstsB (nt : Nat) : PC → Bool
  | .reg ops _ => ops.all fun o => match o.dst with | some d => decide (d < nt) | none => true
  | .regD ops _ => ops.all fun o => match o.dst with | some d => decide (d < nt) | none => true
  | .seq x y => dstsB nt x && dstsB nt y
  | .cond _ x y => dstsB nt x && dstsB nt y
  | .block _ x => dstsB nt x
  | .loop _ x => dstsB nt x
  | _ => true
theorem code_sound (hO : OrOK P C N E) (hN : NOK P N C E.G) {base nt n : Nat} : ∀ (pc : PC) (c : Code), bare pc = digC P N c → dstsB nt pc = true → ∀ (s s' : St) (ex : Ex) (a : Act) (w : World) (S : Stab) (β : Pl) (Q : Exit → Act → World → Prop),
    evalC E (lpN n) base pc s = some (ex, s') → Inv P N C E B base nt s a w S β → (∀ a' w' S' β', Inv P N C E B base nt s' a' w' S' β' → Ext B w S w' S' → Lb base β β' → Q (exOf ex) a' w') → c.wp P Q a w := by
  intro pc
  induction pc with
  | skip =>
    intro c hb _ s s' ex a w S β Q he hI hQ
    cases c with
    | skip =>
      simp only [evalC, Option.some.injEq, Prod.mk.injEq] at he
      obtain ⟨rfl, rfl⟩ := he
      exact wp_skip (hQ a w S β hI (Ext.refl _ _ _) (Lb.refl _ _))
    | region id ops d => simp only [digC, bare] at hb; split at hb <;> first | (cases hb; done) | (split at hb <;> cases hb)
    | cond x y z => simp only [digC, bare] at hb; split at hb <;> cases hb
    | _ => simp [bare, digC] at hb
  | reg ops kill =>
    intro c hb hds s s' ex a w S β Q he hI hQ
    cases c with
    | region id ops' d =>
      simp only [digC, bare] at hb
      split at hb
      · split at hb <;> cases hb
      · rename_i hd
        simp only [PC.reg.injEq, and_true] at hb
        subst hb
        have hd' : d = false := by simpa using hd
        subst hd'
        simp only [evalC] at he
        split at he
        · rename_i s1 hs1
          simp only [Option.some.injEq, Prod.mk.injEq] at he
          obtain ⟨rfl, rfl⟩ := he
          unfold evalReg at hs1
          split at hs1
          · rename_i s2 hs2
            cases hs1
            refine wp_region ?_
            rw [List.range_eq_range']
            have hlen : s.H.length ≤ (s.H ++ List.replicate (nadds (ops'.toList.map (digO P N ops'))) none).length := by simp
            refine ops_sound (base := base) (nt := nt) hO hN ?_ ops'.size 0 s.H.length (s.H.length + nadds (ops'.toList.map (digO P N ops'))) ⟨s.fr, s.H ++ List.replicate (nadds (ops'.toList.map (digO P N ops'))) none⟩ s2 a w S β (by omega) (by simpa using hs2) ⟨hI.swf, hI.gok, hI.hB, hok_grow hI.hok _, hI.fok, hI.size, hI.defers, Nat.le_trans hI.base hlen⟩ ?_ ?_ ?_ hI.base ?_
            · intro o ho d hd
              have hds' : ∀ o ∈ ops'.toList.map (digO P N ops'), (match o.dst with | some d => decide (d < nt) | none => true) = true := by
                simpa only [dstsB, List.all_eq_true] using hds
              have := hds' _ (List.mem_map_of_mem ho)
              have hdo : (digO P N ops' o).dst = o.dst := by unfold digO; split <;> rfl
              rw [hdo, hd] at this
              simpa using this
            · intro j hj _
              exact hI.hok.out j hj
            · simp
            · simp
            · intro a' w' S' β' hI' e1 e2
              refine hQ a' w' S' β' ⟨hI'.swf, hI'.gok, hI'.hB, hI'.hok, ?_, hI'.size, hI'.defers, hI'.base⟩ e1 e2
              intro t
              rcases get_drop kill t s2.fr with h | h
              · rw [h]; exact hI'.fok t
              · rw [h]; exact .u _
          · cases hs1
        · cases he
    | cond x y z => simp only [digC, bare] at hb; split at hb <;> cases hb
    | _ => simp [bare, digC] at hb
  | regD ops kill =>
    intro c hb hds s s' ex a w S β Q he hI hQ
    cases c with
    | region id ops' d =>
      simp only [digC, bare] at hb
      split at hb
      · rename_i hd
        split at hb
        · rename_i hok
          simp only [PC.regD.injEq, and_true] at hb
          subst hb
          subst hd
          simp only [evalC] at he
          split at he
          · rename_i s1 hs1
            simp only [Option.some.injEq, Prod.mk.injEq] at he
            obtain ⟨rfl, rfl⟩ := he
            unfold evalRegD at hs1
            split at hs1
            · rename_i s2 hs2
              cases hs1
              refine regD_sound (base := base) (nt := nt) (B := B) (S := S) (β := β) hO hN ?_ hok hs2 hI ?_
              · intro o ho d hd
                have hds' : ∀ o ∈ ops'.toList.map (digO P N ops'), (match o.dst with | some d => decide (d < nt) | none => true) = true := by
                  simpa only [dstsB, List.all_eq_true] using hds
                have := hds' _ (List.mem_map_of_mem ho)
                have hdo : (digO P N ops' o).dst = o.dst := by unfold digO; split <;> rfl
                rw [hdo, hd] at this
                simpa using this
              · intro a' w' S' β' hI' e1 e2
                refine hQ a' w' S' β' ⟨hI'.swf, hI'.gok, hI'.hB, hI'.hok, ?_, hI'.size, hI'.defers, hI'.base⟩ e1 e2
                intro t
                rcases get_drop kill t s2.fr with h | h
                · rw [h]; exact hI'.fok t
                · rw [h]; exact .u _
            · cases hs1
          · cases he
        · cases hb
      · cases hb
    | cond x y z => simp only [digC, bare] at hb; split at hb <;> cases hb
    | _ => simp [bare, digC] at hb
  | seq x y ihx ihy =>
    intro c hb hds s s' ex a w S β Q he hI hQ
    simp only [dstsB, Bool.and_eq_true] at hds
    cases c with
    | seq c1 c2 =>
      simp only [digC, bare, PC.seq.injEq] at hb
      simp only [evalC] at he
      refine wp_seq ?_
      cases hx : evalC E (lpN n) base x s with
      | none => rw [hx] at he; cases he
      | some v =>
        obtain ⟨e1, s1⟩ := v
        refine ihx c1 hb.1 hds.1 s s1 e1 a w S β _ hx hI ?_
        intro a' w' S' β' hI' g1 g2
        rw [hx] at he
        cases e1 with
        | norm =>
          exact ihy c2 hb.2 hds.2 s1 s' ex a' w' S' β' Q he hI' fun a'' w'' S'' β'' hI'' g3 g4 => hQ a'' w'' S'' β'' hI'' (g1.trans g3) (g2.trans g4)
        | exit id =>
          simp only [Option.some.injEq, Prod.mk.injEq] at he
          obtain ⟨rfl, rfl⟩ := he
          exact hQ a' w' S' β' hI' g1 g2
        | ret =>
          simp only [Option.some.injEq, Prod.mk.injEq] at he
          obtain ⟨rfl, rfl⟩ := he
          exact hQ a' w' S' β' hI' g1 g2
    | region id ops d => simp only [digC, bare] at hb; split at hb <;> first | (cases hb; done) | (split at hb <;> cases hb)
    | cond x y z => simp only [digC, bare] at hb; split at hb <;> cases hb
    | _ => simp [bare, digC] at hb
  | cond c x y ihx ihy =>
    intro cc hb hds s s' ex a w S β Q he hI hQ
    simp only [dstsB, Bool.and_eq_true] at hds
    cases cc with
    | cond c0 c1 c2 =>
      simp only [digC, bare] at hb
      split at hb
      · rename_i r hr
        simp only [PC.cond.injEq] at hb
        obtain ⟨rfl, hb1, hb2⟩ := hb
        have hrel := rand_sound hN hI.gok hI.fok hr
        simp only [evalC] at he
        split at he
        · rename_i hc
          rw [hc] at hrel
          exact wp_cond_true (bool_rel hrel) (ihx c1 hb1 hds.1 s s' ex a w S β Q he hI hQ)
        · rename_i hc
          rw [hc] at hrel
          exact wp_cond_false (bool_rel hrel) (ihy c2 hb2 hds.2 s s' ex a w S β Q he hI hQ)
        · cases he
      · cases hb
    | region id ops d => simp only [digC, bare] at hb; split at hb <;> first | (cases hb; done) | (split at hb <;> cases hb)
    | _ => simp [bare, digC] at hb
  | block id x ih =>
    intro c hb hds s s' ex a w S β Q he hI hQ
    simp only [dstsB] at hds
    cases c with
    | block id' c1 =>
      simp only [digC, bare, PC.block.injEq] at hb
      obtain ⟨rfl, hb⟩ := hb
      simp only [evalC] at he
      refine wp_block ?_
      cases hx : evalC E (lpN n) base x s with
      | none => rw [hx] at he; cases he
      | some v =>
        obtain ⟨e1, s1⟩ := v
        rw [hx] at he
        refine ih c1 hb hds s s1 e1 a w S β _ hx hI ?_
        intro a' w' S' β' hI' g1 g2
        cases e1 with
        | norm =>
          simp only [Option.some.injEq, Prod.mk.injEq] at he
          obtain ⟨rfl, rfl⟩ := he
          exact hQ a' w' S' β' hI' g1 g2
        | exit j =>
          simp only at he
          split at he
          · rename_i hj
            simp only [Option.some.injEq, Prod.mk.injEq] at he
            obtain ⟨rfl, rfl⟩ := he
            simp only [beq_iff_eq] at hj
            subst hj
            simp only [exOf, Exit.inBlock, if_true]
            exact hQ a' w' S' β' hI' g1 g2
          · rename_i hj
            simp only [Option.some.injEq, Prod.mk.injEq] at he
            obtain ⟨rfl, rfl⟩ := he
            simp only [beq_iff_eq] at hj
            simp only [exOf, Exit.inBlock, hj, if_false]
            exact hQ a' w' S' β' hI' g1 g2
        | ret =>
          simp only [Option.some.injEq, Prod.mk.injEq] at he
          obtain ⟨rfl, rfl⟩ := he
          exact hQ a' w' S' β' hI' g1 g2
    | region id ops d => simp only [digC, bare] at hb; split at hb <;> first | (cases hb; done) | (split at hb <;> cases hb)
    | cond x y z => simp only [digC, bare] at hb; split at hb <;> cases hb
    | _ => simp [bare, digC] at hb
  | loop live x ih =>
    intro c hb hds s s' ex a w S β Q he hI hQ
    simp only [dstsB] at hds
    cases c with
    | loop c1 =>
      simp only [digC, bare, PC.loop.injEq, true_and] at hb
      simp only [evalC] at he
      refine wp_loop_rounds n ?_
      -- rounds
      have key : ∀ (m : Nat) (s : St) (a : Act) (w1 : World) (S1 : Stab) (β1 : Pl), lpN m (fun s => evalC E (lpN n) base x (gc live base s)) s = some (ex, s') → Inv P N C E B base nt s a w1 S1 β1 → Ext B w S w1 S1 → Lb base β β1 → Code.rounds P c1 Q m a w1 := by
        intro m
        induction m with
        | zero => intro s a w1 S1 β1 h; cases h
        | succ m ihm =>
          intro s a w1 S1 β1 h hI1 g1 g2
          rw [rounds_succ]
          rw [lpN] at h
          obtain ⟨β2, hI2, g3⟩ := gc_inv hI1 live
          cases hx : evalC E (lpN n) base x (gc live base s) with
          | none => rw [hx] at h; cases h
          | some v =>
            obtain ⟨e1, s1⟩ := v
            rw [hx] at h
            refine ih c1 hb hds _ s1 e1 a w1 S1 β2 _ hx hI2 ?_
            intro a' w' S' β' hI' g4 g5
            cases e1 with
            | norm => exact ihm s1 a' w' S' β' h hI' (g1.trans g4) ((g2.trans g3).trans g5)
            | exit id =>
              simp only [Option.some.injEq, Prod.mk.injEq] at h
              obtain ⟨rfl, rfl⟩ := h
              exact hQ a' w' S' β' hI' (g1.trans g4) ((g2.trans g3).trans g5)
            | ret =>
              simp only [Option.some.injEq, Prod.mk.injEq] at h
              obtain ⟨rfl, rfl⟩ := h
              exact hQ a' w' S' β' hI' (g1.trans g4) ((g2.trans g3).trans g5)
      exact key n s a w S β he hI (Ext.refl _ _ _) (Lb.refl _ _)
    | region id ops d => simp only [digC, bare] at hb; split at hb <;> first | (cases hb; done) | (split at hb <;> cases hb)
    | cond x y z => simp only [digC, bare] at hb; split at hb <;> cases hb
    | _ => simp [bare, digC] at hb
  | exit id =>
    intro c hb _ s s' ex a w S β Q he hI hQ
    cases c with
    | exit id' =>
      simp only [digC, bare, PC.exit.injEq] at hb
      subst hb
      simp only [evalC, Option.some.injEq, Prod.mk.injEq] at he
      obtain ⟨rfl, rfl⟩ := he
      exact wp_exit (hQ a w S β hI (Ext.refl _ _ _) (Lb.refl _ _))
    | region id ops d => simp only [digC, bare] at hb; split at hb <;> first | (cases hb; done) | (split at hb <;> cases hb)
    | cond x y z => simp only [digC, bare] at hb; split at hb <;> cases hb
    | _ => simp [bare, digC] at hb
  | ret =>
    intro c hb _ s s' ex a w S β Q he hI hQ
    cases c with
    | ret =>
      simp only [evalC, Option.some.injEq, Prod.mk.injEq] at he
      obtain ⟨rfl, rfl⟩ := he
      exact wp_ret (hQ a w S β hI (Ext.refl _ _ _) (Lb.refl _ _))
    | region id ops d => simp only [digC, bare] at hb; split at hb <;> first | (cases hb; done) | (split at hb <;> cases hb)
    | cond x y z => simp only [digC, bare] at hb; split at hb <;> cases hb
    | _ => simp [bare, digC] at hb
  | bad => intro c hb _ s s' ex a w S β Q he; cases he
/-! Functions. -/
def resOf (tmps : Array Value) : ResultVar → Sem Value
  | .tmp t => pure (tmps.getD t undef)
  | .cell x t => do loadVar t (← asAddr (tmps.getD x undef))
theorem results_sound {base nt : Nat} {s : St} (hI : Inv P N C E B base nt s a w S β) : ∀ {rs : List ResultVar} {xs : List RV} {vs : List PV}, digRs P rs = some xs → results s.fr s.H xs = some vs →
    ∃ us : List Value, (rs.mapM (resOf a.tmps)).run P w = .ok us w ∧ vs.length = us.length ∧ ∀ j (h : j < vs.length) (h' : j < us.length), RelV C w S β vs[j] us[j]
  | [], xs, vs, h, hr => by
    cases h
    cases hr
    exact ⟨[], rfl, rfl, fun j h => absurd h (Nat.not_lt_zero _)⟩
  | r :: rs, xs, vs, h, hr => by
    unfold digRs at h
    obtain ⟨x, hx, h⟩ := Option.bind_eq_some_iff.1 h
    obtain ⟨xs', hxs, h⟩ := Option.bind_eq_some_iff.1 h
    cases h
    cases r with
    | tmp t =>
      simp only [digR, Option.some.injEq] at hx
      subst hx
      simp only [Sim.results] at hr
      split at hr
      · rename_i vs' hvs
        cases hr
        obtain ⟨us, h1, h2, h3⟩ := results_sound hI hxs hvs
        refine ⟨a.tmps.getD t undef :: us, ?_, by simp [h2], ?_⟩
        · simp only [List.mapM_cons, resOf, Sem.run_bind, Sem.run_pure, Result.andThen_ok, h1]
        · intro j hj hj'
          cases j with
          | zero => exact hI.fok t
          | succ j => exact h3 j (by simpa using hj) (by simpa using hj')
      · cases hr
    | cell y t =>
      simp only [digR] at hx
      obtain ⟨k, hk, hx⟩ := Option.bind_eq_some_iff.1 hx
      cases hx
      simp only [Sim.results] at hr
      split at hr
      · rename_i v vs' hv hvs
        cases hr
        obtain ⟨us, h1, h2, h3⟩ := results_sound hI hxs hvs
        obtain ⟨u, h4, h5⟩ := loadA_sound hI.hok hk (hI.fok y) hv
        have h6 : (do loadVar t (← asAddr (a.tmps.getD y undef)) : Sem Value).run P w = .ok u w := by
          generalize a.tmps.getD y undef = z at *
          cases z with
          | pointer p =>
            cases p with
            | some p => simpa [Instr.loadAt, Instr.sureAddr, asAddr] using h4
            | none => simp [Instr.loadAt, Instr.sureAddr] at h4
          | _ => simp [Instr.loadAt, Instr.sureAddr] at h4
        refine ⟨u :: us, ?_, by simp [h2], ?_⟩
        · simp only [Sem.run_bind] at h6
          simp only [List.mapM_cons, resOf, Sem.run_bind, h6, Result.andThen_ok, h1, Sem.run_pure]
        · intro j hj hj'
          cases j with
          | zero => exact h5
          | succ j => exact h3 j (by simpa using hj) (by simpa using hj')
      · cases hr
theorem packed_rel {vs : List PV} {us : List Value} (hl : vs.length = us.length) (h : ∀ j (h : j < vs.length) (h' : j < us.length), RelV C w S β vs[j] us[j]) :
    RelV C w S β (packed vs) (if h : us.toArray.size = 1 then us.toArray[0] else .tuple us.toArray) := by
  unfold packed
  split
  · rename_i v
    have h1 : us.toArray.size = 1 := by simpa using hl.symm
    rw [dif_pos h1]
    have h2 : us.length = 1 := by simpa using h1
    have := h 0 (by simp) (by omega)
    simpa using this
  · rename_i hn
    have h1 : ¬ us.toArray.size = 1 := by
      intro h1
      have : vs.length = 1 := by simpa [hl] using h1
      cases vs with
      | nil => simp at this
      | cons v r =>
        cases r with
        | nil => exact hn v rfl
        | cons _ _ => simp at this
    rw [dif_neg h1]
    exact .t vs us hl h
/-- What the table says of a function. -/
def FnOK (P : Program) (N : Names) (f : FuncId) (F : PF) : Prop :=
  ∃ fn c, P.funcs[f]? = some fn ∧ fn.name ≠ "runtime.NumGoroutine" ∧ fn.body = some c ∧ digRs P fn.results.toList = some F.results ∧ bare F.body = digC P N c ∧ dstsB (F.nargs + (fn.ntmps - F.nargs)) F.body = true
theorem fn_sound (hO : OrOK P C N E) (hN : NOK P N C E.G) {n : Nat} {f : FuncId} {F : PF} (hF : FnOK P N f F) {args : List PV} {v : PV} {H' : Heap} (h : evalF E (lpN n) F args H = some (v, H')) {us : List Value} (hS : Swf w S) (hG : GOK N E.G w S) (hB : B ≤ w.heap.size) (hH : HOK C B w S β H)
    (hl : args.length = us.length) (hr : ∀ j (h : j < args.length) (h' : j < us.length), RelV C w S β args[j] us[j]) :
    Calls P f us.toArray w fun e w' => ∃ u S' β', e = .returned u ∧ Ext B w S w' S' ∧ Swf w' S' ∧ HOK C B w' S' β' H' ∧ Lb H.length β β' ∧ RelV C w' S' β' v u ∧ H.length ≤ H'.length := by
  obtain ⟨fn, c, f1, -, f3, f4, f5, f6⟩ := hF
  unfold evalF at h
  split at h
  · rename_i hn
    refine calls_of_wp f1 f3 ?_
    have hsz : us.toArray.size = F.nargs := by simp; omega
    have hI : Inv P N C E B H.length (F.nargs + (fn.ntmps - F.nargs)) ⟨Fr.ofArgs 0 args, H⟩ { tmps := us.toArray ++ Array.replicate (fn.ntmps - us.toArray.size) undef, defers := [] } w S β := by
      refine ⟨hS, hG, hB, hH, ?_, by simp only [Array.size_append, Array.size_replicate, hsz], rfl, Nat.le_refl _⟩
      intro t
      rw [get_ofArgs]
      simp only [Nat.zero_le, if_true, Nat.sub_zero]
      by_cases ht : t < args.length
      · rw [List.getD, List.getElem?_eq_getElem ht, Option.getD_some]
        have ht' : t < us.length := by omega
        have : (us.toArray ++ Array.replicate (fn.ntmps - us.toArray.size) undef).getD t undef = us[t] := by
          rw [Array.getD_eq_getD_getElem?, Array.getElem?_append_left (by simpa using ht')]
          simp [ht']
        rw [this]
        exact hr t ht ht'
      · rw [List.getD, List.getElem?_eq_none (by omega), Option.getD_none]
        exact .u _
    have fin : ∀ (s : St) (vs : List PV) (a' : Act) (w' : World) (S' : Stab) (β' : Pl), Inv P N C E B H.length (F.nargs + (fn.ntmps - F.nargs)) s a' w' S' β' → Ext B w S w' S' → Lb H.length β β' → Sim.results s.fr s.H F.results = some vs → packed vs = v → s.H = H' →
        a'.defers = [] ∧ ∃ u, (Go.results fn a'.tmps).run P w' = .ok u w' ∧ ∃ u' S' β', Ending.returned u = .returned u' ∧ Ext B w S w' S' ∧ Swf w' S' ∧ HOK C B w' S' β' H' ∧ Lb H.length β β' ∧ RelV C w' S' β' v u' ∧ H.length ≤ H'.length := by
      rintro s vs a' w' S' β' hI' g1 g2 hvs rfl rfl
      obtain ⟨us', e1, e2, e3⟩ := results_sound hI' f4 hvs
      refine ⟨hI'.defers, (if h : us'.toArray.size = 1 then us'.toArray[0] else .tuple us'.toArray), ?_, _, S', β', rfl, g1, hI'.swf, hI'.hok, g2, packed_rel e2 e3, hI'.base⟩
      have e4 : (fn.results.mapM (resOf a'.tmps)).run P w' = .ok us'.toArray w' := by
        rw [Array.mapM_eq_mapM_toList, Sem.run_map, e1]
        rfl
      unfold Go.results
      rw [Sem.run_bind]
      show Result.andThen ((fn.results.mapM (resOf a'.tmps)).run P w') _ = _
      rw [e4]
      rfl
    split at h
    · rename_i s hs
      split at h
      · rename_i vs hvs
        simp only [Option.some.injEq, Prod.mk.injEq] at h
        refine code_sound hO hN F.body c f5 f6 _ s .norm _ w S β _ hs hI ?_
        intro a' w' S' β' hI' g1 g2
        obtain ⟨q1, u, q2, q3⟩ := fin s vs a' w' S' β' hI' g1 g2 hvs h.1 h.2
        exact ⟨q1, u, q2, q3⟩
      · cases h
    · rename_i s hs
      split at h
      · rename_i vs hvs
        simp only [Option.some.injEq, Prod.mk.injEq] at h
        refine code_sound hO hN F.body c f5 f6 _ s .ret _ w S β _ hs hI ?_
        intro a' w' S' β' hI' g1 g2
        obtain ⟨q1, u, q2, q3⟩ := fin s vs a' w' S' β' hI' g1 g2 hvs h.1 h.2
        exact ⟨q1, u, q2, q3⟩
      · cases h
    · cases h
  · cases h
end
end Go.Sim
