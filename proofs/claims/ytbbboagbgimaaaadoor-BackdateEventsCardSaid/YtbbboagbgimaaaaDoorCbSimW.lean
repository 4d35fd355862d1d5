/- One operation. -/
import Derived.Test.YtbbboagbgimaaaaDoorCbSimV
open Go.RowKit
namespace Go.Sim
section
variable {P : Program} {N : Names} {C : Cx} {w : World} {S : Stab} {β : Pl} {B : Nat} {H : Heap} {a : Act}
theorem wp_value {o : Oper} {next : Act → World → Prop} {Q : Exit → Act → World → Prop} {u : Value} {w' : World} (h : (execOp a.eval o).run P w = .ok (.value u) w') (hn : next (a.put o.dst u) w') : o.wp P a w next Q := by
  unfold Oper.wp; rw [h]; exact hn
theorem wp_opskip {o : Oper} {next : Act → World → Prop} {Q : Exit → Act → World → Prop} {w' : World} (h : (execOp a.eval o).run P w = .ok .skip w') (hn : next (a.put o.dst undef) w') : o.wp P a w next Q := by
  unfold Oper.wp; rw [h]; exact hn
theorem wp_enter {o : Oper} {next : Act → World → Prop} {Q : Exit → Act → World → Prop} {f : FuncId} {args : Array Value} {R : Ending → World → Prop} (h : (execOp a.eval o).run P w = .ok (.enter f args) w) (hc : Calls P f args w R)
    (hn : ∀ e w', R e w' → ∃ v, e = .returned v ∧ next (a.put o.dst v) w') : o.wp P a w next Q := by
  unfold Oper.wp; rw [h]
  refine hc.mono ?_
  intro e w' hr
  obtain ⟨v, rfl, hv⟩ := hn e w' hr
  exact hv
theorem run_v {s : Sem Value} {u : Value} {w w' : World} (h : s.run P w = .ok u w') : (do pure (Next.value (← s)) : Sem Next).run P w = .ok (.value u) w' := by
  simp [h]
theorem run_u {s : Sem Unit} {w w' : World} (h : s.run P w = .ok () w') : (do s; pure Next.skip : Sem Next).run P w = .ok .skip w' := by
  simp [h]
theorem rands_sound {E : Env} (hN : NOK P N C E.G) (hG : GOK N E.G w S) {fr : Fr} (hf : FOK C w S β fr a) : ∀ {ts : List (Option TypeId)} {xs : List Operand} {rs : List Rand}, rands P N ts xs = some rs →
    rs.length = xs.length ∧ ∀ j (h : j < (rs.map (rd E fr)).length) (h' : j < (xs.map a.eval).length), RelV C w S β (rs.map (rd E fr))[j] (xs.map a.eval)[j]
  | _, [], rs, h => by cases h; exact ⟨rfl, fun j h => absurd h (Nat.not_lt_zero _)⟩
  | ts, x :: xs, rs, h => by
    unfold rands at h
    obtain ⟨r, hr, h⟩ := Option.bind_eq_some_iff.1 h
    obtain ⟨rs', hrs, h⟩ := Option.bind_eq_some_iff.1 h
    cases h
    obtain ⟨h1, h2⟩ := rands_sound hN hG hf hrs
    refine ⟨by simp [h1], ?_⟩
    intro j hj hj'
    cases j with
    | zero => exact rand_sound hN hG hf hr
    | succ j => exact h2 j (by simpa using hj) (by simpa using hj')
theorem randO_sound {E : Env} (hN : NOK P N C E.G) (hG : GOK N E.G w S) {fr : Fr} (hf : FOK C w S β fr a) {x : Option Operand} {r : Option Rand} (h : randO P N x = some r) : RelO C w S β (r.map (rd E fr)) (x.map a.eval) := by
  cases x with
  | none => cases h; trivial
  | some x =>
    simp only [randO, Option.map_eq_some_iff] at h
    obtain ⟨y, hy, rfl⟩ := h
    exact rand_sound hN hG hf hy
theorem partsOf_sound {E : Env} (hN : NOK P N C E.G) (hG : GOK N E.G w S) {fr : Fr} (hf : FOK C w S β fr a) {pl : Nat → Option (Nat × TypeId)} : ∀ {parts : List (Nat × Operand)} {ps : List (Nat × K × Rand)}, partsOf P N pl parts = some ps →
    PartsRel C w S β (fun i => (pl i).map fun p => (p.1, P.cellsOf p.2)) (ps.map fun x => (x.1, x.2.1, rd E fr x.2.2)) (parts.map fun x => (x.1, a.eval x.2))
  | [], ps, h => by cases h; trivial
  | (i, x) :: r, ps, h => by
    unfold partsOf at h
    obtain ⟨p, hp, h⟩ := Option.bind_eq_some_iff.1 h
    obtain ⟨k, hk, h⟩ := Option.bind_eq_some_iff.1 h
    obtain ⟨y, hy, h⟩ := Option.bind_eq_some_iff.1 h
    obtain ⟨ys, hys, h⟩ := Option.bind_eq_some_iff.1 h
    cases h
    exact ⟨by simp [hp, kq_size hk], rand_sound hN hG hf hy, partsOf_sound hN hG hf hys⟩
theorem partsS_sound {E : Env} (hN : NOK P N C E.G) (hG : GOK N E.G w S) {fr : Fr} (hf : FOK C w S β fr a) {t : TypeId} : ∀ {parts : List (Nat × Operand)} {ps : List (Nat × Rand)}, partsS P N t parts = some ps →
    SPartsRel C w S β (ps.map fun x => (x.1, rd E fr x.2)) (parts.map fun x => (x.1, a.eval x.2))
  | [], ps, h => by cases h; trivial
  | (i, x) :: r, ps, h => by
    unfold partsS at h
    obtain ⟨y, hy, h⟩ := Option.bind_eq_some_iff.1 h
    obtain ⟨ys, hys, h⟩ := Option.bind_eq_some_iff.1 h
    cases h
    exact ⟨rfl, rand_sound hN hG hf hy, partsS_sound hN hG hf hys⟩
theorem elemK_spec {t : TypeId} {ek : TypeId × K} (h : elemK P t = some ek) : P.underlying t = some (.slice ek.1) ∧ kq P ek.1 = some ek.2 := by
  unfold elemK at h
  split at h
  · obtain ⟨k, hk, h⟩ := Option.bind_eq_some_iff.1 h
    cases h
    exact ⟨‹_›, hk⟩
  · cases h
theorem bool_rel {b : Bool} {u : Value} (h : RelV C w S β (.d (.b b)) u) : u = .bool b := by
  cases h with
  | d _ _ h => cases h; rfl
theorem func_rel {n : Nat} {cs : List PV} {u : Value} (h : RelV C w S β (.f n cs) u) : ∃ us : List Value, u = .func (.func (C.μ n)) #[] us.toArray ∧ cs.length = us.length ∧ ∀ j (h : j < cs.length) (h' : j < us.length), RelV C w S β cs[j] us[j] := by
  cases h with
  | f _ _ us h1 h2 => exact ⟨us, rfl, h1, h2⟩
theorem field_rel {off : Nat} {k : K} {x v : PV} {u : Value} (hx : RelV C w S β x u) (h : fieldA off k x = some v) :
    ∃ vs : List Value, u = .agg vs.toArray ∧ off + k.size ≤ vs.length ∧ RelV C w S β v (mkV k (fun m => vs.getD (off + m) undef)) := by
  unfold fieldA at h
  split at h
  · rename_i cs
    split at h
    · rename_i hle
      split at h
      · rename_i d hm
        cases h
        cases hx with
        | d _ _ hx =>
        cases hx with
        | a _ vs h1 h2 h3 =>
        refine ⟨vs, rfl, by omega, .d _ _ (mkD_rel hm ?_ ?_)⟩
        · intro m y hy hmk
          obtain ⟨e1, e2⟩ := getElem?_drop_take hy
          obtain ⟨e3, rfl⟩ := List.getElem?_eq_some_iff.1 e1
          have := h3 (off + m) e3 (by omega)
          simpa [List.getD, List.getElem?_eq_getElem (show off + m < vs.length by omega)] using this
        · intro m hmk
          simp only [List.getD, List.getElem?_eq_getElem (show off + m < vs.length by omega), Option.getD_some]
          exact h2 _ (List.getElem_mem _)
      · cases h
    · cases h
  · rename_i cs
    split at h
    · rename_i hle
      cases hx with
      | a _ vs h1 h2 h3 =>
      refine ⟨vs, rfl, by omega, mkP_rel h ?_ ?_⟩
      · intro m y hy hmk
        obtain ⟨e1, e2⟩ := getElem?_drop_take hy
        obtain ⟨e3, rfl⟩ := List.getElem?_eq_some_iff.1 e1
        have := h3 (off + m) e3 (by omega)
        simpa [List.getD, List.getElem?_eq_getElem (show off + m < vs.length by omega)] using this
      · intro m hmk
        simp only [List.getD, List.getElem?_eq_getElem (show off + m < vs.length by omega), Option.getD_some]
        exact h2 _ (List.getElem_mem _)
    · cases h
  · cases h
theorem run_call_func {f : FuncId} {fn : Func} (hfn : P.funcs[f]? = some fn) (hb : fn.body.isNone = false) (hn : fn.name ≠ "runtime.NumGoroutine") (args : Array Value) : (callFunc f args).run P w = .ok (.enter f args) w := by
  have : (fn.name == "runtime.NumGoroutine") = false := by simpa using hn
  simp only [callFunc, Sem.run_bind, run_program, Result.andThen_ok, hfn, this, Bool.false_eq_true, if_false, hb, Sem.run_pure]
theorem run_call_value {o : Oper} {c : Call} (hop : o.op = .call c) {x : Operand} (hc : c.callee = .value x) {f : FuncId} {caps : Array Value} (hx : a.eval x = .func (.func f) #[] caps) {fn : Func} (hfn : P.funcs[f]? = some fn) (hb : fn.body.isNone = false) (hn : fn.name ≠ "runtime.NumGoroutine") :
    (execOp a.eval o).run P w = .ok (.enter f (c.args.map a.eval ++ caps)) w := by
  simp only [execOp, hop, resolve, hc, hx, Deferred.ofValue, Sem.run_bind, Sem.run_pure, Result.andThen_ok, invoke, Array.empty_append]
  exact run_call_func hfn hb hn _
theorem lenA_sound (hH : HOK C B w S β H) {str : Bool} {x : PV} {u : Value} {n : Nat} (hx : RelV C w S β x u) (h : lenA H str x = some n) {ts : Array TypeId} {t : TypeId} (ht : ts[0]? = some t)
    (hu : (str = true ∧ P.underlying t = some .string) ∨ (str = false ∧ ∃ e, P.underlying t = some (.slice e))) (ty : TypeId) : (Builtin.len_ ts ty #[u]).run P w = .ok (.int .i64 n) w := by
  rcases lenA_rel hH hx h with ⟨hs, a, cap, rfl⟩ | ⟨hs, s, rfl, hsz⟩
  · rcases hu with ⟨h1, -⟩ | ⟨-, e, he⟩
    · rw [hs] at h1; cases h1
    · simp [Builtin.len_, ht, run_und he, goInt]
  · rcases hu with ⟨-, he⟩ | ⟨h1, -⟩
    · simp [Builtin.len_, ht, run_und he, goInt, hsz]
    · rw [hs] at h1; cases h1
/-- What one operation leaves. -/
def OpPost (C : Cx) (B : Nat) (w : World) (S : Stab) (β : Pl) (H : Heap) (id : Nat) (v : PV) (H' : Heap) (K : Value → World → Prop) : Prop :=
  ∀ u w' S' β', Ext B w S w' S' → Swf w' S' → HOK C B w' S' β' H' → Later β β' → RelV C w' S' β' v u → H.length ≤ H'.length → Kp H.length id β β' → K u w'
theorem OpPost.same {id : Nat} {v : PV} {K : Value → World → Prop} (h : OpPost C B w S β H id v H K) (hH : HOK C B w S β H) (hS : Swf w S) {u : Value} (hu : RelV C w S β v u) : K u w :=
  h u w S β (Ext.refl _ _ _) hS hH (Later.refl _) hu (Nat.le_refl _) (Kp.refl _ _ _)
theorem OpPost.of_leaves {id : Nat} {v : PV} {H' : Heap} {K : Value → World → Prop} (h : OpPost C B w S β H id v H' K) {u : Value} {w' : World} (hl : Leaves C B w S β H id v H' u w') : K u w' := by
  obtain ⟨S', β', a1, a2, a3, a4, a5, a6, a7⟩ := hl
  exact h u w' S' β' a1 a2 a3 a4 a5 (by omega) a7
theorem op_sound {E : Env} (hO : OrOK P C N E) (hN : NOK P N C E.G) (hG : GOK N E.G w S) (hS : Swf w S) (hB : B ≤ w.heap.size) (hH : HOK C B w S β H) {fr : Fr} (hf : FOK C w S β fr a) {id : Nat} {o : Oper} {io : IOp}
    (hd : digOp P N o = some io) (hid : io.adds = true → β id = .pend ∧ id < H.length) {v : PV} {H' : Heap} (h : evalOp E (rd E fr) H id io = some (v, H')) {next : Act → World → Prop} {Q : Exit → Act → World → Prop}
    (hp : OpPost C B w S β H id v H' fun u w' => next (a.put o.dst u) w') : o.wp P a w next Q := by
  have R : ∀ {t : Option TypeId} {x : Operand} {r : Rand}, rand P N t x = some r → RelV C w S β (rd E fr r) (a.eval x) := fun h => rand_sound hN hG hf h
  cases hop : o.op with
  | move x =>
    simp only [digOp, hop] at hd
    obtain ⟨r, hr, hd⟩ := Option.bind_eq_some_iff.1 hd
    cases hd
    simp only [evalOp, Option.some.injEq, Prod.mk.injEq] at h
    obtain ⟨rfl, rfl⟩ := h
    exact wp_value (by simp [execOp, hop]) (hp.same hH hS (R hr))
  | assign x =>
    simp only [digOp, hop] at hd
    obtain ⟨r, hr, hd⟩ := Option.bind_eq_some_iff.1 hd
    cases hd
    simp only [evalOp, Option.some.injEq, Prod.mk.injEq] at h
    obtain ⟨rfl, rfl⟩ := h
    exact wp_value (by simp [execOp, hop]) (hp.same hH hS (R hr))
  | pick c x y =>
    simp only [digOp, hop] at hd
    obtain ⟨rc, hrc, hd⟩ := Option.bind_eq_some_iff.1 hd
    obtain ⟨rx, hrx, hd⟩ := Option.bind_eq_some_iff.1 hd
    obtain ⟨ry, hry, hd⟩ := Option.bind_eq_some_iff.1 hd
    cases hd
    have hc := R hrc
    simp only [evalOp] at h
    split at h
    · rename_i hcv
      rw [hcv] at hc
      cases h
      cases hev : a.eval c with
      | bool b =>
        rw [hev] at hc
        cases hc with
        | d _ _ hc =>
        cases hc
        exact wp_value (by simp [execOp, hop, hev, asBool]) (hp.same hH hS (R hrx))
      | _ => rw [hev] at hc; cases hc with | d _ _ hc => cases hc
    · rename_i hcv
      rw [hcv] at hc
      cases h
      cases hev : a.eval c with
      | bool b =>
        rw [hev] at hc
        cases hc with
        | d _ _ hc =>
        cases hc
        exact wp_value (by simp [execOp, hop, hev, asBool]) (hp.same hH hS (R hry))
      | _ => rw [hev] at hc; cases hc with | d _ _ hc => cases hc
    · cases h
  | alloc e =>
    simp only [digOp, hop] at hd
    obtain ⟨k, hk, hd⟩ := Option.bind_eq_some_iff.1 hd
    obtain ⟨z, hz, hd⟩ := Option.bind_eq_some_iff.1 hd
    cases hd
    simp only [evalOp, Option.some.injEq, Prod.mk.injEq] at h
    obtain ⟨rfl, rfl⟩ := h
    obtain ⟨h1, h2⟩ := hid rfl
    obtain ⟨k', zv, hk', hzv, hfz, hrz⟩ := zq_rel hz
    rw [hk] at hk'; cases hk'
    obtain ⟨w', β', b1, b2, b3, b4, b5, b6⟩ := new_var (P := P) hH hS hB h1 h2 hfz (.d _ _ (hrz w S)) e
    refine wp_value (u := .pointer (some ⟨w.heap.size, 0, none⟩)) (w' := w') ?_ (hp _ _ S β' b2 (hS.ext b2) b3 b4 b5 (by rw [put_length]; exact Nat.le_refl _) b6)
    simp only [execOp, hop]
    refine run_v ?_
    simp [Instr.alloc, run_zero hzv, b1]
  | box e x =>
    simp only [digOp, hop] at hd
    obtain ⟨k, hk, hd⟩ := Option.bind_eq_some_iff.1 hd
    obtain ⟨r, hr, hd⟩ := Option.bind_eq_some_iff.1 hd
    cases hd
    simp only [evalOp] at h
    split at h
    · rename_i hfit
      simp only [Option.some.injEq, Prod.mk.injEq] at h
      obtain ⟨rfl, rfl⟩ := h
      obtain ⟨h1, h2⟩ := hid rfl
      obtain ⟨w', β', b1, b2, b3, b4, b5, b6⟩ := new_var (P := P) hH hS hB h1 h2 hfit (R hr) e
      refine wp_value (u := .pointer (some ⟨w.heap.size, 0, none⟩)) (w' := w') ?_ (hp _ _ S β' b2 (hS.ext b2) b3 b4 b5 (by rw [put_length]; exact Nat.le_refl _) b6)
      simp only [execOp, hop]
      refine run_v ?_
      simp [Instr.box, b1]
    · cases h
  | load t x =>
    simp only [digOp, hop] at hd
    obtain ⟨k, hk, hd⟩ := Option.bind_eq_some_iff.1 hd
    obtain ⟨r, hr, hd⟩ := Option.bind_eq_some_iff.1 hd
    cases hd
    simp only [evalOp, opt] at h
    split at h
    · rename_i v' hv'
      simp only [Option.some.injEq, Prod.mk.injEq] at h
      obtain ⟨rfl, rfl⟩ := h
      obtain ⟨u, h1, h2⟩ := loadA_sound hH hk (R hr) hv'
      exact wp_value (by simp only [execOp, hop]; exact run_v h1) (hp.same hH hS h2)
    · cases h
  | store t x y =>
    simp only [digOp, hop] at hd
    obtain ⟨k, hk, hd⟩ := Option.bind_eq_some_iff.1 hd
    obtain ⟨rx, hrx, hd⟩ := Option.bind_eq_some_iff.1 hd
    obtain ⟨ry, hry, hd⟩ := Option.bind_eq_some_iff.1 hd
    cases hd
    simp only [evalOp] at h
    split at h
    · rename_i H1 hH1
      simp only [Option.some.injEq, Prod.mk.injEq] at h
      obtain ⟨rfl, rfl⟩ := h
      obtain ⟨w', S', b1, b2, b3, b4, b5⟩ := storeA_sound hH hS hk (R hrx) (R hry) hH1
      exact wp_opskip (by simp only [execOp, hop]; exact run_u b1) (hp _ _ S' β b2 b3 b4 (Later.refl _) (.u _) (by omega) (Kp.refl _ _ _))
    · cases h
  | extract x i =>
    simp only [digOp, hop] at hd
    obtain ⟨r, hr, hd⟩ := Option.bind_eq_some_iff.1 hd
    cases hd
    have hx := R hr
    simp only [evalOp] at h
    split at h
    · rename_i vs hvs
      rw [hvs] at hx
      cases hev : a.eval x with
      | tuple us =>
        rw [hev] at hx
        generalize hus : us = us' at hx
        cases hx with
        | t _ vs' h1 h2 =>
        simp only [opt] at h
        split at h
        · rename_i v' hv'
          simp only [Option.some.injEq, Prod.mk.injEq] at h
          obtain ⟨rfl, rfl⟩ := h
          obtain ⟨hi, rfl⟩ := List.getElem?_eq_some_iff.1 hv'
          have hi' : i < vs'.length := by omega
          refine wp_value (u := vs'[i]) ?_ (hp.same hH hS (h2 i hi hi'))
          simp only [execOp, hop]
          refine run_v ?_
          simp [Instr.extract, hev, hus, List.getElem?_eq_getElem hi']
        · cases h
      | _ => rw [hev] at hx; cases hx
    · cases h
  | unOp op t x =>
    simp only [digOp, hop] at hd
    obtain ⟨r, hr, hd⟩ := Option.bind_eq_some_iff.1 hd
    cases hd
    simp only [evalOp, optD] at h
    split at h
    · rename_i d hdv
      simp only [Option.some.injEq, Prod.mk.injEq] at h
      obtain ⟨rfl, rfl⟩ := h
      obtain ⟨u, h1, h2⟩ := unA_rel (P := P) (R hr) hdv
      exact wp_value (by simp only [execOp, hop]; exact run_v h1) (hp.same hH hS (.d _ _ h2))
    · cases h
  | convert s t x =>
    simp only [digOp, hop] at hd
    obtain ⟨r, hr, hd⟩ := Option.bind_eq_some_iff.1 hd
    split at hd
    · rename_i k1 k hs ht
      cases hd
      have hx := R hr
      simp only [evalOp] at h
      split at h
      · rename_i k2 n hn
        rw [hn] at hx
        simp only [Option.some.injEq, Prod.mk.injEq] at h
        obtain ⟨rfl, rfl⟩ := h
        obtain ⟨k3, hk3⟩ := asI_rel hx rfl
        refine wp_value (u := .int k (k.wrap n)) ?_ (hp.same hH hS (.d _ _ (.i _ _)))
        simp only [execOp, hop]
        refine run_v ?_
        simp [convert, run_und hs, run_und ht, hk3, Conv.intToInt]
      · cases h
    · cases hd
  | fieldAddr s x f =>
    simp only [digOp, hop] at hd
    obtain ⟨fd, hfd, hd⟩ := Option.bind_eq_some_iff.1 hd
    obtain ⟨k, hk, hd⟩ := Option.bind_eq_some_iff.1 hd
    obtain ⟨r, hr, hd⟩ := Option.bind_eq_some_iff.1 hd
    split at hd
    · cases hd
    · rename_i hz
      cases hd
      simp only [evalOp, opt] at h
      split at h
      · rename_i v' hv'
        simp only [Option.some.injEq, Prod.mk.injEq] at h
        obtain ⟨rfl, rfl⟩ := h
        obtain ⟨blk, o', h1, h2⟩ := moveA_rel (R hr) hv'
        refine wp_value ?_ (hp.same hH hS h2)
        simp only [execOp, hop, h1]
        exact run_v (run_fieldAt hfd hk hz blk o' w)
      · cases h
  | nilCheck x =>
    simp only [digOp, hop] at hd
    obtain ⟨r, hr, hd⟩ := Option.bind_eq_some_iff.1 hd
    cases hd
    have hx := R hr
    simp only [evalOp] at h
    have fin : ∀ v' : PV, (∀ u, RelV C w S β v' u → (∃ p, u = .pointer (some p)) ∨ ∃ f cs, u = .func (.func f) #[] cs) → RelV C w S β v' (a.eval x) → v' = v → H' = H → o.wp P a w next Q := by
      intro v' hc hrel hv hH'
      subst hv hH'
      refine wp_value (u := a.eval x) ?_ (hp.same hH hS hrel)
      rcases hc _ hrel with ⟨p, hu⟩ | ⟨f, cs, hu⟩ <;> simp [execOp, hop, hu]
    split at h
    · rename_i o' i c hv
      simp only [Option.some.injEq, Prod.mk.injEq] at h
      rw [hv] at hx
      refine fin _ ?_ hx h.1 h.2.symm
      intro u hu
      cases hu with
      | p _ _ _ _ h0 hp =>
      unfold RelPt at hp
      split at hp
      · exact hp.elim
      · obtain ⟨_, _, rfl⟩ := hp; exact .inl ⟨_, rfl⟩
      · exact hp.elim
      · subst hp; exact .inl ⟨_, rfl⟩
    · rename_i hv
      simp only [Option.some.injEq, Prod.mk.injEq] at h
      rw [hv] at hx
      refine fin _ ?_ hx h.1 h.2.symm
      intro u hu
      cases hu
      exact .inl ⟨_, rfl⟩
    · rename_i hv
      simp only [Option.some.injEq, Prod.mk.injEq] at h
      rw [hv] at hx
      refine fin _ ?_ hx h.1 h.2.symm
      intro u hu
      cases hu
      exact .inr ⟨_, _, rfl⟩
    · cases h
  | build t parts =>
    simp only [digOp, hop] at hd
    obtain ⟨z, hz, hd⟩ := Option.bind_eq_some_iff.1 hd
    split at hd
    · rename_i fs hu
      split at hd
      · rename_i hall
        obtain ⟨ps, hps, hd⟩ := Option.bind_eq_some_iff.1 hd
        cases hd
        have hpr := partsOf_sound hN hG hf hps
        simp only [evalOp] at h
        split at h
        · rename_i cs hcs
          simp only [Option.some.injEq, Prod.mk.injEq] at h
          obtain ⟨rfl, rfl⟩ := h
          have hpr' : PartsRel C w S β (fun i => (fs[i]?).map fun f => (f.offset, P.cellsOf f.type)) (ps.map fun x => (x.1, x.2.1, rd E fr x.2.2)) (parts.toList.map fun x => (x.1, a.eval x.2)) := by
            have e : (fun (i : Nat) => ((fs[i]?).map fun (f : Field) => (f.offset, f.type)).map fun p => (p.1, P.cellsOf p.2)) = (fun (i : Nat) => (fs[i]?).map fun (f : Field) => (f.offset, P.cellsOf f.type)) := by
              funext i; cases fs[i]? <;> rfl
            rw [← e]; exact hpr
          obtain ⟨u, h1, h2⟩ := build_struct_sound hz hu hall hpr' hcs
          refine wp_value (u := u) ?_ (hp.same hH hS h2)
          simp only [execOp, hop]
          refine run_v ?_
          have : parts.map (fun x => (x.1, a.eval x.2)) = (parts.toList.map fun x => (x.1, a.eval x.2)).toArray := by
            apply Array.ext'; simp
          rw [← h1, ← this]
        · cases h
      · cases hd
    · rename_i n e hu
      obtain ⟨k, hk, hd⟩ := Option.bind_eq_some_iff.1 hd
      obtain ⟨ps, hps, hd⟩ := Option.bind_eq_some_iff.1 hd
      cases hd
      have hpr := partsOf_sound hN hG hf hps
      simp only [evalOp] at h
      split at h
      · rename_i cs hcs
        simp only [Option.some.injEq, Prod.mk.injEq] at h
        obtain ⟨rfl, rfl⟩ := h
        obtain ⟨u, h1, h2⟩ := build_array_sound hz hu hk hpr hcs
        refine wp_value (u := u) ?_ (hp.same hH hS h2)
        simp only [execOp, hop]
        refine run_v ?_
        have : parts.map (fun x => (x.1, a.eval x.2)) = (parts.toList.map fun x => (x.1, a.eval x.2)).toArray := by
          apply Array.ext'; simp
        rw [← h1, ← this]
      · cases h
    · cases hd
  | buildSlice t n parts =>
    simp only [digOp, hop] at hd
    obtain ⟨ek, hek, hd⟩ := Option.bind_eq_some_iff.1 hd
    obtain ⟨z, hz, hd⟩ := Option.bind_eq_some_iff.1 hd
    obtain ⟨ps, hps, hd⟩ := Option.bind_eq_some_iff.1 hd
    split at hd
    · rename_i hn
      cases hd
      obtain ⟨hu, hk⟩ := elemK_spec hek
      have hpr := partsS_sound hN hG hf hps
      obtain ⟨h1, h2⟩ := hid rfl
      simp only [evalOp] at h
      split at h
      · rename_i es os hes
        simp only [Option.some.injEq, Prod.mk.injEq] at h
        obtain ⟨rfl, rfl⟩ := h
        obtain ⟨kz, zv, hkz, hzv, hfz, hrz⟩ := zq_rel hz
        rw [hk] at hkz; cases hkz
        have hH1 := freeze_hok hH os
        have hext1 := freeze_ext hH os
        have hS1 := freeze_swf hH hS os
        have hrow := zrow (w := w) (S := FS β H os S) (n := n) hfz hrz (if n * ek.2.size = 0 then #[] else zv.cells) (fun h => by rw [if_neg h])
        obtain ⟨A', c1, c2, c3, c4⟩ := bslA_sound hH (FS β H os S) (fun _ _ h => .inl h) (fun _ _ h => h) hrow hpr hes
        have hlen : es.length = n := by rw [c3, List.length_replicate]
        have hAlen : A'.length = n * ek.2.size := by rw [c4]; simp
        obtain ⟨a1, a2, a3, a4⟩ := new_row_at hH1 hS1 hB h1 (by rw [frz_length]; exact h2) c2 ek.1 0 (len := n) (cap := n) (tt := true) (by rw [hAlen]; exact Nat.le_refl _) (Nat.le_refl _) (fun _ => rfl)
        refine wp_value ?_ (hp _ _ _ _ (hext1.trans a1) (hS1.ext a1) a2 a3 a4 (by rw [put_length, frz_length]; exact Nat.le_refl _) (kp_upd _ _ _ _))
        simp only [execOp, hop]
        refine run_v ?_
        have hparts : parts.map (fun x => (x.1, a.eval x.2)) = (parts.toList.map fun x => (x.1, a.eval x.2)).toArray := by
          apply Array.ext'; simp
        have hbig : ¬ (n * ek.2.size > 2 ^ 24) := by omega
        have hz0 : (if n * ek.2.size = 0 then pure #[] else do pure (← zeroValue ek.1).cells : Sem (Array Value)).run P w = .ok (if n * ek.2.size = 0 then #[] else zv.cells) w := by
          split
          · rfl
          · simp [run_zero hzv]
        have hfill : Instr.fill (fun i => some (i * ek.2.size, ek.2.size)) ((Array.range (n * ek.2.size)).map ((if n * ek.2.size = 0 then #[] else zv.cells)[· % (if n * ek.2.size = 0 then #[] else zv.cells).size]!)) (parts.map (fun x => (x.1, a.eval x.2))).toList = some A'.toArray := by
          rw [hparts]
          rw [Array.toArray_toList] at c1
          exact c1
        have hrun : (Instr.buildSlice t n (parts.map (fun x => (x.1, a.eval x.2)))).run P w = .ok (.slice (some ⟨w.heap.size, 0, none⟩) n n) (w.alloc (.cells A'.toArray ek.1)) := by
          by_cases h0 : n * ek.2.size = 0
          · rw [if_pos h0] at hfill
            simp only [Instr.buildSlice, Sem.run_bind, run_und hu, Result.andThen_ok, run_sizeK hk, Sem.run_ite, hbig, if_false]
            rw [if_pos h0]
            simp only [Sem.run_pure, Result.andThen_ok, hfill]
            simp [newRow]
          · rw [if_neg h0] at hfill
            simp only [Instr.buildSlice, Sem.run_bind, run_und hu, Result.andThen_ok, run_sizeK hk, Sem.run_ite, hbig, if_false, h0, run_zero hzv, Sem.run_pure, hfill]
            simp [newRow]
        exact hrun
      · cases h
    · cases hd
  | binOp op t x y ty =>
    simp only [digOp, hop] at hd
    obtain ⟨rx, hrx, hd⟩ := Option.bind_eq_some_iff.1 hd
    obtain ⟨ry, hry, hd⟩ := Option.bind_eq_some_iff.1 hd
    have bin : evalOp E (rd E fr) H id (.bin op rx ry) = some (v, H') → o.wp P a w next Q := by
      intro h
      simp only [evalOp, optD] at h
      split at h
      · rename_i d hdv
        simp only [Option.some.injEq, Prod.mk.injEq] at h
        obtain ⟨rfl, rfl⟩ := h
        obtain ⟨u, h1, h2, h3⟩ := binA_rel (P := P) (t := t) (R hrx) (R hry) hdv x y
        refine wp_value (u := u) ?_ (hp.same hH hS (.d _ _ h3))
        simp only [execOp, hop]
        refine run_v ?_
        simp [h1, h2]
      · cases h
    have eqb : ∀ neg, (op = .eql ∧ neg = false ∨ op = .neq ∧ neg = true) → P.underlying t = some .bool → evalOp E (rd E fr) H id (.eqb neg rx ry) = some (v, H') → o.wp P a w next Q := by
      intro neg hneg hu h
      have hx := R hrx
      have hy := R hry
      simp only [evalOp] at h
      split at h
      · rename_i b1 b2 h1 h2
        simp only [Option.some.injEq, Prod.mk.injEq] at h
        obtain ⟨rfl, rfl⟩ := h
        rw [h1] at hx
        rw [h2] at hy
        have e1 := bool_rel hx
        have e2 := bool_rel hy
        have heq := run_equalIn_bool' (P := P) w 9999 t b1 b2 hu
        rcases hneg with ⟨rfl, rfl⟩ | ⟨rfl, rfl⟩
        · refine wp_value (u := .bool (b1 == b2)) ?_ (hp.same hH hS (.d _ _ (.b _)))
          simp only [execOp, hop, e1, e2]
          refine run_v ?_
          simp [eqGuard, binOp, Op.equal, Op.maxDepth, heq]
        · refine wp_value (u := .bool (!(b1 == b2))) ?_ (hp.same hH hS (.d _ _ (.b _)))
          simp only [execOp, hop, e1, e2]
          refine run_v ?_
          simp [eqGuard, binOp, Op.equal, Op.maxDepth, heq]
      · cases h
    have eqv : ∀ fs, P.underlying t = some (.struct fs) → (op = .eql ∨ op = .neq) → (if P.eqGuardType P.depth t then none else (eqKs P 8 t).bind fun ks => some (.eqv (op == .neq) ks rx ry)) = some io → o.wp P a w next Q := by
      intro fs hu hop' hd
      split at hd
      · cases hd
      · rename_i hm
        obtain ⟨ks, hks, hd⟩ := Option.bind_eq_some_iff.1 hd
        cases hd
        simp only [evalOp] at h
        split at h
        · rename_i e he
          simp only [Option.some.injEq, Prod.mk.injEq] at h
          obtain ⟨rfl, rfl⟩ := h
          obtain ⟨h1, h2⟩ := eqA_rel hu hks (by simpa using hm) (R hrx) (R hry) he x y op hop'
          refine wp_value (u := .bool (if op == .neq then !e else e)) ?_ (hp.same hH hS (.d _ _ (.b _)))
          simp only [execOp, hop]
          refine run_v ?_
          simp [h1, h2]
        · cases h
    unfold digBin at hd
    split at hd
    · split at hd
      · cases hd; exact bin h
      · cases hd; exact bin h
      · rename_i hu; cases hd; exact eqb _ (.inl ⟨rfl, rfl⟩) hu h
      · rename_i fs hu; exact eqv fs hu (.inl rfl) hd
      · cases hd
    · split at hd
      · cases hd; exact bin h
      · cases hd; exact bin h
      · rename_i hu; cases hd; exact eqb _ (.inr ⟨rfl, rfl⟩) hu h
      · rename_i fs hu; exact eqv fs hu (.inr rfl) hd
      · cases hd
    · cases hd; exact bin h
  | makeFunc fn first caps =>
    simp only [digOp, hop] at hd
    cases fn with
    | func f =>
      simp only at hd
      split at hd
      · rename_i hfs
        obtain ⟨x, hx, hd⟩ := Option.bind_eq_some_iff.1 hd
        obtain ⟨cs, hcs, hd⟩ := Option.bind_eq_some_iff.1 hd
        cases hd
        simp only [evalOp, Option.some.injEq, Prod.mk.injEq] at h
        obtain ⟨rfl, rfl⟩ := h
        obtain ⟨h1, h2⟩ := rands_sound hN hG hf hcs
        have hrel := RelV.f (C := C) (w := w) (S := S) (β := β) x.1 (cs.map (rd E fr)) (caps.toList.map a.eval) (by simp [h1]) h2
        refine wp_value (u := .func (.func (C.μ x.1)) #[] (caps.toList.map a.eval).toArray) ?_ (hp.same hH hS hrel)
        simp only [execOp, hop]
        refine run_v ?_
        have hf0 : first = #[] := by simpa using hfs
        subst hf0
        have : caps.map a.eval = (caps.toList.map a.eval).toArray := by apply Array.ext'; simp
        simp only [Instr.makeFunc, hN.f f x hx, this, Array.map_empty, Sem.run_pure]
      · cases hd
    | _ => cases hd
  | makeSlice t l c =>
    simp only [digOp, hop] at hd
    obtain ⟨ek, hek, hd⟩ := Option.bind_eq_some_iff.1 hd
    obtain ⟨z, hz, hd⟩ := Option.bind_eq_some_iff.1 hd
    obtain ⟨rl, hrl, hd⟩ := Option.bind_eq_some_iff.1 hd
    obtain ⟨rc, hrc, hd⟩ := Option.bind_eq_some_iff.1 hd
    split at hd
    · cases hd
    · rename_i hb0
      cases hd
      obtain ⟨hu, hk⟩ := elemK_spec hek
      obtain ⟨h1, h2⟩ := hid rfl
      simp only [evalOp] at h
      split at h
      · rename_i n c' hn hc
        split at h
        · rename_i hcnd
          simp only [Option.some.injEq, Prod.mk.injEq] at h
          obtain ⟨rfl, rfl⟩ := h
          obtain ⟨ur, w', e1, e2⟩ := mksl_sound hH hS hB h1 h2 hu hk hz hb0 (R hrl) (R hrc) hn hc hcnd
          exact wp_value (by simp only [execOp, hop]; exact run_v e1) (hp.of_leaves e2)
        · cases h
      · cases h
  | slice t x lo hi mx =>
    simp only [digOp, hop] at hd
    obtain ⟨rx, hrx, hd⟩ := Option.bind_eq_some_iff.1 hd
    obtain ⟨rlo, hrlo, hd⟩ := Option.bind_eq_some_iff.1 hd
    obtain ⟨rhi, hrhi, hd⟩ := Option.bind_eq_some_iff.1 hd
    obtain ⟨rmx, hrmx, hd⟩ := Option.bind_eq_some_iff.1 hd
    have h1 := randO_sound hN hG hf hrlo
    have h2 := randO_sound hN hG hf hrhi
    have h3 := randO_sound hN hG hf hrmx
    split at hd
    · rename_i hu
      split at hd
      · rename_i hmx
        cases hd
        have hmx0 : mx = none := by
          cases mx with
          | none => rfl
          | some m =>
            simp only [randO, Option.map_eq_some_iff] at hrmx
            obtain ⟨_, _, rfl⟩ := hrmx
            simp at hmx
        subst hmx0
        have hx := R hrx
        simp only [evalOp] at h
        split at h
        · rename_i s hs
          rw [hs] at hx
          split at h
          · rename_i hh hhh
            split at h
            · rename_i l hl
              simp only [Option.some.injEq, Prod.mk.injEq] at h
              obtain ⟨rfl, rfl⟩ := h
              obtain ⟨u, e1, e2⟩ := slS_rel (P := P) hu hx h1 h2 hhh hl
              exact wp_value (by simp only [execOp, hop]; exact run_v e1) (hp.same hH hS (.d _ _ e2))
            · cases h
          · cases h
        · cases h
      · cases hd
    · rename_i e hu
      obtain ⟨k, hk, hd⟩ := Option.bind_eq_some_iff.1 hd
      split at hd
      · cases hd
      · rename_i hmh
        cases hd
        simp only [evalOp, opt] at h
        split at h
        · rename_i v' hv'
          simp only [Option.some.injEq, Prod.mk.injEq] at h
          obtain ⟨rfl, rfl⟩ := h
          obtain ⟨u, e1, e2⟩ := sl_sound hH hu hk (R hrx) h1 h2 h3 (by cases rmx <;> cases rhi <;> simp_all) hv'
          exact wp_value (by simp only [execOp, hop]; exact run_v e1) (hp.same hH hS e2)
        · cases h
    · cases hd
  | field s x f =>
    simp only [digOp, hop] at hd
    obtain ⟨fd, hfd, hd⟩ := Option.bind_eq_some_iff.1 hd
    obtain ⟨k, hk, hd⟩ := Option.bind_eq_some_iff.1 hd
    obtain ⟨r, hr, hd⟩ := Option.bind_eq_some_iff.1 hd
    cases hd
    have hx := R hr
    simp only [evalOp, opt] at h
    split at h
    case h_2 => cases h
    rename_i v' hv'
    simp only [Option.some.injEq, Prod.mk.injEq] at h
    obtain ⟨rfl, rfl⟩ := h
    have h := hv'
    obtain ⟨vs, e1, e2, e3⟩ := field_rel hx h
    refine wp_value ?_ (hp.same hH hS e3)
    simp only [execOp, hop]
    refine run_v ?_
    unfold fieldAt at hfd
    split at hfd
    · rename_i fs hu
      simp [Instr.field, run_und hu, hfd, e1, asAgg, run_part hk e2]
    · cases hfd
  | indexAddr t x i =>
    simp only [digOp, hop] at hd
    obtain ⟨rx, hrx, hd⟩ := Option.bind_eq_some_iff.1 hd
    obtain ⟨ri, hri, hd⟩ := Option.bind_eq_some_iff.1 hd
    split at hd
    · rename_i n e hu
      obtain ⟨k, hk, hd⟩ := Option.bind_eq_some_iff.1 hd
      cases hd
      simp only [evalOp] at h
      split at h
      · rename_i m hm
        obtain ⟨ki, hki⟩ := asI_rel (R hri) hm
        split at h
        · rename_i j hj
          simp only [opt] at h
          split at h
          · rename_i v' hv'
            simp only [Option.some.injEq, Prod.mk.injEq] at h
            obtain ⟨rfl, rfl⟩ := h
            obtain ⟨blk, o', e1, e2⟩ := moveA_rel (R hrx) hv'
            refine wp_value ?_ (hp.same hH hS e2)
            simp only [execOp, hop, e1, hki]
            exact run_v (run_indexAt_arr hu hk hj ki blk o' w)
          · cases h
        · cases h
      · cases h
    · rename_i e hu
      obtain ⟨k, hk, hd⟩ := Option.bind_eq_some_iff.1 hd
      cases hd
      simp only [evalOp, opt] at h
      split at h
      · rename_i v' hv'
        simp only [Option.some.injEq, Prod.mk.injEq] at h
        obtain ⟨rfl, rfl⟩ := h
        obtain ⟨u, e1, e2⟩ := iaddr_sound hH hu hk (R hrx) (R hri) hv'
        exact wp_value (by simp only [execOp, hop]; exact run_v e1) (hp.same hH hS e2)
      · cases h
    · cases hd
  | index t x i =>
    simp only [digOp, hop] at hd
    obtain ⟨rx, hrx, hd⟩ := Option.bind_eq_some_iff.1 hd
    obtain ⟨ri, hri, hd⟩ := Option.bind_eq_some_iff.1 hd
    split at hd
    · rename_i n e hu
      obtain ⟨k, hk, hd⟩ := Option.bind_eq_some_iff.1 hd
      cases hd
      simp only [evalOp] at h
      split at h
      · rename_i m hm
        obtain ⟨ki, hki⟩ := asI_rel (R hri) hm
        split at h
        · rename_i j hj
          simp only [opt] at h
          split at h
          case h_2 => cases h
          rename_i v' hv'
          simp only [Option.some.injEq, Prod.mk.injEq] at h
          obtain ⟨rfl, rfl⟩ := h
          have h := hv'
          obtain ⟨vs, e1, e2, e3⟩ := field_rel (R hrx) h
          refine wp_value ?_ (hp.same hH hS e3)
          simp only [execOp, hop]
          refine run_v ?_
          obtain ⟨q1, q2, q3, q4⟩ := inR_spec hj
          subst q3
          simp [Instr.index, run_und hu, e1, hki, asIntOf, q1, q2, run_sizeK hk, run_part hk e2]
        · cases h
      · cases h
    · rename_i hu
      cases hd
      simp only [evalOp] at h
      split at h
      · rename_i s n hs hn
        split at h
        · rename_i h0
          split at h
          · rename_i b hb
            simp only [Option.some.injEq, Prod.mk.injEq] at h
            obtain ⟨rfl, rfl⟩ := h
            have := idxS_rel (P := P) hu (R hrx) (R hri) hs hn h0 hb
            exact wp_value (by simp only [execOp, hop]; exact run_v this) (hp.same hH hS (.d _ _ (.i _ _)))
          · cases h
        · cases h
      · cases h
    · cases hd
  | call c =>
    simp only [digOp, hop] at hd
    unfold digCall at hd
    have len1 : ∀ {ts : List (Option TypeId)} {rs : List Rand}, rands P N ts c.args.toList = some rs → rs.length = c.args.size := fun h => by
      have := (rands_sound hN hG hf h).1
      simpa using this
    split at hd
    · -- a function by its name
      rename_i f hcal
      obtain ⟨fn, hfn, hd⟩ := Option.bind_eq_some_iff.1 hd
      obtain ⟨as, has, hd⟩ := Option.bind_eq_some_iff.1 hd
      split at hd
      · simp [primNo] at hd
      · rename_i hbody
        split at hd
        · cases hd
        · rename_i hname
          obtain ⟨x, hx, hd⟩ := Option.bind_eq_some_iff.1 hd
          cases hd
          obtain ⟨r1, r2⟩ := rands_sound hN hG hf has
          have hrun := run_call_value (P := P) (w := w) (a := a) hop hcal (caps := #[]) (f := f) rfl hfn (by cases hq : fn.body <;> simp_all) hname
          have hargs : c.args.map a.eval ++ #[] = (c.args.toList.map a.eval).toArray := by apply Array.ext'; simp
          rw [hargs] at hrun
          have hμ := hN.f f x hx
          have hlen : (as.map (rd E fr)).length = (c.args.toList.map a.eval).length := by simp [r1]
          rcases hm : x.2 with _ | _ | m
          · -- by plain data
            rw [hm] at h hid
            simp only [evalOp] at h
            split at h
            · rename_i ds os hpur
              split at h
              · rename_i r own hval
                simp only [Option.some.injEq, Prod.mk.injEq] at h
                obtain ⟨rfl, hH'⟩ := h
                obtain ⟨l1, l2⟩ := call_args hH hpur hlen r2
                have hcall := hO.val _ _ _ _ hval w (FS β H os S) _ (freeze_swf hH hS os) (hG.ext (freeze_ext hH os)) l1 l2
                rw [hμ] at hcall
                refine wp_enter hrun hcall ?_
                rintro e w' ⟨u, S', rfl, e1, e2, e3, e4⟩
                refine ⟨u, rfl, ?_⟩
                have hres : ∃ S2, Ext w.heap.size w (FS β H os S) w' S2 ∧ Swf w' S2 ∧ RelV C w' S2 (fun _ => .pend) r u := by
                  cases own with
                  | false => exact ⟨S', e1, e2, e3 rfl⟩
                  | true =>
                    obtain ⟨k, es, rfl, ho⟩ := e4 rfl
                    obtain ⟨S2, q1, q2, q3, -⟩ := owned_stable e2 ho
                    exact ⟨S2, e1.trans q1, q2, .d _ _ q3⟩
                obtain ⟨S2, g1, g2, g3⟩ := hres
                have froz : OpPost C B w S β H id r (frz H os) (fun u w' => next (a.put o.dst u) w') → next (a.put o.dst u) w' := by
                  intro hp
                  obtain ⟨b1, b2⟩ := behind_call (freeze_hok hH os) hB g1
                  exact hp u w' S2 β ((freeze_ext hH os).trans b1) g2 b2 (Later.refl _) g3.plain (by rw [frz_length]; exact Nat.le_refl _) (Kp.refl _ _ _)
                split at hH'
                · rename_i hc
                  subst hH'
                  rcases Bool.or_eq_true _ _ ▸ hc with hc | hc
                  · have : os = [] := by simpa using hc
                    subst this
                    exact froz hp
                  · have e5 : Ext w.heap.size w S w' (fun b j => S b j ∨ (w.heap.size ≤ b ∧ S2 b j)) :=
                      ⟨g1.below, fun _ _ h => .inl h, fun b j h => g1.cell b j (.inl h), fun b j h => h.imp (fun h => h) And.left, g1.shape⟩
                    obtain ⟨b1, b2⟩ := behind_call hH hB e5
                    refine hp u w' _ β b1 ?_ b2 (Later.refl _) (scal_rel hc g3) (Nat.le_refl _) (Kp.refl _ _ _)
                    rintro b j (h | ⟨-, h⟩)
                    · obtain ⟨z, hz⟩ := hS b j h
                      exact ⟨z, (g1.cell b j (.inl h)).trans hz⟩
                    · exact g2 b j h
                · subst hH'; exact froz hp
              · cases h
            · cases h
          · -- by plain data; the result becomes an object
            rw [hm] at h hid
            obtain ⟨i1, i2⟩ := hid rfl
            simp only [evalOp] at h
            split at h
            · rename_i ds os hpur
              split at h
              · rename_i k es tt hval
                simp only [Option.some.injEq, Prod.mk.injEq] at h
                obtain ⟨rfl, hH'⟩ := h
                have hH'' : (frz H os).put id (some (.sl k 0 es)) = H' := by
                  rw [← hH']
                  split
                  · rename_i hc
                    have : os = [] := by simpa using hc
                    subst this; rfl
                  · rfl
                subst hH''
                obtain ⟨l1, l2⟩ := call_args hH hpur hlen r2
                have hcall := hO.val _ _ _ _ hval w (FS β H os S) _ (freeze_swf hH hS os) (hG.ext (freeze_ext hH os)) l1 l2
                rw [hμ] at hcall
                refine wp_enter hrun hcall ?_
                rintro e w' ⟨u, S', rfl, e1, e2, -, e4⟩
                refine ⟨u, rfl, ?_⟩
                obtain ⟨k', es', hke, ho⟩ := e4 rfl
                cases hke
                obtain ⟨b1, b2⟩ := behind_call (freeze_hok hH os) hB e1
                have i2' : id < (frz H os).length := by rw [frz_length]; exact i2
                rcases ho with ⟨rfl, ad, rfl⟩ | ⟨blk, off, cap, cells, et, rfl, q1, q2, q3, q4, q5, q6⟩
                · obtain ⟨v1, v2⟩ := hok_virt b2 i1 i2' k 0
                  refine hp _ w' S' _ ((freeze_ext hH os).trans b1) e2 v1 v2 (.r _ _ _ _ _ _ rfl ?_) (by rw [put_length, frz_length]; exact Nat.le_refl _) (kp_upd _ _ _ _)
                  unfold RelRf
                  rw [upd_same]
                  exact ⟨rfl, rfl, ad, rfl⟩
                · have hoc : OCells C w' S' β cells blk off (.sl k 0 es) := by
                    obtain ⟨p0, cf, p1, p2⟩ := q6
                    refine ⟨?_, cf, ?_, p2, ?_⟩
                    · have : es.length * k.size ≤ cap * k.size := Nat.mul_le_mul_right _ q1
                      omega
                    · intro j hj m hm
                      have := p1 j hj m hm
                      rw [List.getElem?_drop] at this
                      rw [Nat.add_assoc]
                      simpa using this
                    · intro j hj
                      exact q5 j (by omega)
                  obtain ⟨v1, v2⟩ := hok_adopt b2 hB i1 i2' q2 (fun o blk base k h => hH.lt h) q3 hoc
                  refine hp _ w' S' _ ((freeze_ext hH os).trans b1) e2 v1 v2 (.r _ _ _ _ _ _ rfl ?_) (by rw [put_length, frz_length]; exact Nat.le_refl _) (kp_upd _ _ _ _)
                  unfold RelRf
                  rw [upd_same]
                  refine ⟨rfl, cap, _, rfl, fun _ => by simp, q1, (fun h => by cases h), et, cells.size, ?_, by simpa using q4⟩
                  unfold World.shape?
                  rw [q3]
              · cases h
            · cases h
          · -- by reference
            rw [hm] at h
            simp only [evalOp] at h
            have hcall := hO.ref _ _ _ _ _ h B w S β _ hB hS hG hH hlen r2
            rw [hμ] at hcall
            refine wp_enter hrun hcall ?_
            rintro e w' ⟨u, S', β', rfl, e1, e2, e3, e4, e5, e6, e7⟩
            exact ⟨u, rfl, hp u w' S' β' e1 e2 e3 e4 e5 e6 (fun o ho _ => e7 o ho (by omega))⟩
    · -- a function value
      rename_i t hcal
      obtain ⟨as, has, hd⟩ := Option.bind_eq_some_iff.1 hd
      cases hd
      obtain ⟨r1, r2⟩ := rands_sound hN hG hf has
      simp only [evalOp] at h
      split at h
      · rename_i n caps hx
        have hfx := hf t
        have hx' : fr.get t = .f n caps := hx
        rw [hx'] at hfx
        obtain ⟨us, h1, h2, h3⟩ := func_rel hfx
        obtain ⟨fn, q1, q2, q3⟩ := hO.fn _ _ _ _ h
        have hrun := run_call_value (P := P) (w := w) (a := a) hop hcal (caps := us.toArray) (f := C.μ n) h1 q1 q2 q3
        have hargs : c.args.map a.eval ++ us.toArray = (c.args.toList.map a.eval ++ us).toArray := by apply Array.ext'; simp
        rw [hargs] at hrun
        have hlen : (as.map (rd E fr) ++ caps).length = (c.args.toList.map a.eval ++ us).length := by simp [r1, h2]
        have hrel : ∀ j (h : j < (as.map (rd E fr) ++ caps).length) (h' : j < (c.args.toList.map a.eval ++ us).length), RelV C w S β (as.map (rd E fr) ++ caps)[j] (c.args.toList.map a.eval ++ us)[j] := by
          intro j hj hj'
          by_cases hja : j < (as.map (rd E fr)).length
          · rw [List.getElem_append_left hja, List.getElem_append_left (by simpa [r1] using hja)]
            exact r2 j _ _
          · rw [List.getElem_append_right (by omega), List.getElem_append_right (by simp only [List.length_map] at hja ⊢; omega)]
            have e1 : (as.map (rd E fr)).length = (c.args.toList.map a.eval).length := by simp [r1]
            simp only [e1]
            exact h3 _ _ _
        have hcall := hO.ref _ _ _ _ _ h B w S β _ hB hS hG hH hlen hrel
        refine wp_enter hrun hcall ?_
        rintro e w' ⟨u, S', β', rfl, e1, e2, e3, e4, e5, e6, e7⟩
        exact ⟨u, rfl, hp u w' S' β' e1 e2 e3 e4 e5 e6 (fun o ho _ => e7 o ho (by omega))⟩
      · cases h
    · cases hd
    · -- a builtin
      rename_i b hcal
      obtain ⟨as, has, hd⟩ := Option.bind_eq_some_iff.1 hd
      obtain ⟨r1, r2⟩ := rands_sound hN hG hf has
      have hargs : c.args.map a.eval = (c.args.toList.map a.eval).toArray := by apply Array.ext'; simp
      split at hd
      · -- len
        split at hd
        · rename_i x
          obtain ⟨t, ht, hd⟩ := Option.bind_eq_some_iff.1 hd
          have h1 : ∃ y, c.args.toList = [y] := by
            cases hc : c.args.toList with
            | nil => rw [hc] at r1; simp at r1
            | cons y l => cases l with
              | nil => exact ⟨y, rfl⟩
              | cons z l => rw [hc] at r1; simp at r1
          obtain ⟨y, hy⟩ := h1
          have hxy : RelV C w S β (rd E fr x) (a.eval y) := by
            have := r2 0 (by simp) (by simp [hy])
            simpa [hy] using this
          have len : ∀ str, (str = true ∧ P.underlying t = some .string) ∨ (str = false ∧ ∃ e, P.underlying t = some (.slice e)) → evalOp E (rd E fr) H id (.len str x) = some (v, H') → o.wp P a w next Q := by
            intro str hst h
            simp only [evalOp] at h
            split at h
            · rename_i n hn
              simp only [Option.some.injEq, Prod.mk.injEq] at h
              obtain ⟨rfl, rfl⟩ := h
              refine wp_value ?_ (hp.same hH hS (.d _ _ (.i _ _)))
              simp only [execOp, hop, resolve, hcal, Sem.run_bind, Sem.run_pure, Result.andThen_ok, invoke, builtin, hargs, hy]
              have := lenA_sound (P := P) hH hxy hn ht hst o.type
              simp only [List.map_cons, List.map_nil, this, Result.andThen_ok]
            · cases h
          split at hd
          · cases hd; exact len _ (.inl ⟨rfl, by assumption⟩) h
          · cases hd; exact len _ (.inr ⟨rfl, _, by assumption⟩) h
          · cases hd
        · cases hd
      · -- append
        split at hd
        · rename_i x y
          obtain ⟨t, ht, hd⟩ := Option.bind_eq_some_iff.1 hd
          obtain ⟨t2, ht2, hd⟩ := Option.bind_eq_some_iff.1 hd
          obtain ⟨ek, hek, hd⟩ := Option.bind_eq_some_iff.1 hd
          obtain ⟨z, hz, hd⟩ := Option.bind_eq_some_iff.1 hd
          obtain ⟨hu, hk⟩ := elemK_spec hek
          have h1 : ∃ p q, c.args.toList = [p, q] := by
            cases hc : c.args.toList with
            | nil => rw [hc] at r1; simp at r1
            | cons p l => cases l with
              | nil => rw [hc] at r1; simp at r1
              | cons q l => cases l with
                | nil => exact ⟨p, q, rfl⟩
                | cons _ _ => rw [hc] at r1; simp at r1
          obtain ⟨p, q, hpq⟩ := h1
          have hxp : RelV C w S β (rd E fr x) (a.eval p) := by
            have := r2 0 (by simp) (by simp [hpq])
            simpa [hpq] using this
          have hyq : RelV C w S β (rd E fr y) (a.eval q) := by
            have := r2 1 (by simp) (by simp [hpq])
            simpa [hpq] using this
          have app : ((∃ e', P.underlying t2 = some (.slice e')) ∨ P.underlying t2 = some .string) → (if P.bytesOf ek.1 = 0 then none else some (.app ek.2 (P.bytesOf ek.1) x y)) = some io → o.wp P a w next Q := by
            intro hu2 hd
            split at hd
            · cases hd
            · rename_i hb0
              cases hd
              obtain ⟨i1, i2⟩ := hid rfl
              simp only [evalOp] at h
              obtain ⟨ur, w', e1, e2⟩ := appA_sound (P := P) hH hS hB i1 i2 ht ht2 hu hk hu2 hz hb0 o.type hxp hyq h
              refine wp_value ?_ (hp.of_leaves e2)
              simp only [execOp, hop, resolve, hcal, Sem.run_bind, Sem.run_pure, Result.andThen_ok, invoke, builtin, hargs, hpq, List.map_cons, List.map_nil, e1]
          split at hd
          · exact app (.inl ⟨_, by assumption⟩) hd
          · exact app (.inr (by assumption)) hd
          · cases hd
        · cases hd
      · cases hd
    · cases hd
  | ready g => simp [digOp, hop] at hd
  | waits g => simp [digOp, hop] at hd
  | sliceToArrayPointer d x => simp [digOp, hop] at hd
  | makeInterface t x => simp [digOp, hop] at hd
  | makeMap t r => simp [digOp, hop] at hd
  | makeChan t s => simp [digOp, hop] at hd
  | lookup t x i b => simp [digOp, hop] at hd
  | insert t m k x => simp [digOp, hop] at hd
  | mapUpdate t m k x => simp [digOp, hop] at hd
  | mapEntry t m k => simp [digOp, hop] at hd
  | entryStore t m s x => simp [digOp, hop] at hd
  | range t x => simp [digOp, hop] at hd
  | next it b => simp [digOp, hop] at hd
  | entry it => simp [digOp, hop] at hd
  | typeAssert x t u b => simp [digOp, hop] at hd
  | go c => simp [digOp, hop] at hd
  | defer c => simp [digOp, hop] at hd
  | panic x => simp [digOp, hop] at hd
  | send c x => simp [digOp, hop] at hd
  | recv t c b => simp [digOp, hop] at hd
  | select cs b => simp [digOp, hop] at hd
end
end Go.Sim
