/- Part 5 of the proof: CbSimW, CbSimX, CbSimXD, CbSimXE0, CbSimXE, CbSimY1, CbSimY2, CbSimY, CbSimZ, CbSimC, CbTabs, CbSimIw. -/
import Derived.Test.YtkijgkjjbanipaaGreatDoorB4
import Derived.LoopN
import Derived.OrdersIn
import Derived.LoopNIn
import Derived.RangeFuncIn
import Derived.Lib.LazyBuf
import Derived.Shelf.Spec.SlicesInsertGrow
import Derived.Shelf.SlGeneric
set_option linter.all false
section
open Go.RowKit
namespace Go.Sim
section
variable {P : Program} {N : Names} {C : Cx} {w : World} {S : Stab} {β : Pl} {B : Nat} {H : Heap} {a : Act} {ro : Option Nat} {nf : Nat}
theorem rands_sound {E : Env} (hN : NOK P N C E.G) (hG : GOK N E.G w S) {fr : Fr} (hf : FOK C w S β fr a) : ∀ {ts : List (Option TypeId)} {xs : List Operand} {rs : List Rand}, rands P N ts xs = some rs →
  rs.length = xs.length ∧ ∀ j (h : j < (rs.map (rd E fr)).length) (h' : j < (xs.map a.eval).length), RelV C w S β (rs.map (rd E fr))[j] (xs.map a.eval)[j]
 | _, [], rs, h => by cases h; exact ⟨rfl, fun j h => absurd h (Nat.not_lt_zero _)⟩
 | ts, x :: xs, rs, h => by
  unfold rands at h
  obtain ⟨r, hr, h⟩ := Option.bind_eq_some_iff.1 h
  obtain ⟨rs', hrs, h⟩ := Option.bind_eq_some_iff.1 h
  cases h
  obtain ⟨h1, h2⟩ := rands_sound hN hG hf hrs
  refine ⟨by simp [h1], ?_⟩
  intro j hj hj'
  cases j with
  | zero => exact rand_sound hN hG hf hr
  | succ j => exact h2 j (by simpa using hj) (by simpa using hj')
theorem randO_sound {E : Env} (hN : NOK P N C E.G) (hG : GOK N E.G w S) {fr : Fr} (hf : FOK C w S β fr a) {x : Option Operand} {r : Option Rand} (h : randO P N x = some r) : RelO C w S β (r.map (rd E fr)) (x.map a.eval) := by
 cases x with
 | none => cases h; trivial
 | some x =>
  simp only [randO, Option.map_eq_some_iff] at h
  obtain ⟨y, hy, rfl⟩ := h
  exact rand_sound hN hG hf hy
theorem partsOf_sound {E : Env} (hN : NOK P N C E.G) (hG : GOK N E.G w S) {fr : Fr} (hf : FOK C w S β fr a) {pl : Nat → Option (Nat × TypeId)} : ∀ {parts : List (Nat × Operand)} {ps : List (Nat × K × Rand)}, partsOf P N pl parts = some ps →
  PartsRel C w S β (fun i => (pl i).map fun p => (p.1, P.cellsOf p.2)) (ps.map fun x => (x.1, x.2.1, rd E fr x.2.2)) (parts.map fun x => (x.1, a.eval x.2))
 | [], ps, h => by cases h; trivial
 | (i, x) :: r, ps, h => by
  unfold partsOf at h
  obtain ⟨p, hp, h⟩ := Option.bind_eq_some_iff.1 h
  obtain ⟨k, hk, h⟩ := Option.bind_eq_some_iff.1 h
  obtain ⟨y, hy, h⟩ := Option.bind_eq_some_iff.1 h
  obtain ⟨ys, hys, h⟩ := Option.bind_eq_some_iff.1 h
  cases h
  exact ⟨by simp [hp, kq_size hk], rand_sound hN hG hf hy, partsOf_sound hN hG hf hys⟩
theorem partsS_sound {E : Env} (hN : NOK P N C E.G) (hG : GOK N E.G w S) {fr : Fr} (hf : FOK C w S β fr a) {t : TypeId} : ∀ {parts : List (Nat × Operand)} {ps : List (Nat × Rand)}, partsS P N t parts = some ps →
  SPartsRel C w S β (ps.map fun x => (x.1, rd E fr x.2)) (parts.map fun x => (x.1, a.eval x.2))
 | [], ps, h => by cases h; trivial
 | (i, x) :: r, ps, h => by
  unfold partsS at h
  obtain ⟨y, hy, h⟩ := Option.bind_eq_some_iff.1 h
  obtain ⟨ys, hys, h⟩ := Option.bind_eq_some_iff.1 h
  cases h
  exact ⟨rfl, rand_sound hN hG hf hy, partsS_sound hN hG hf hys⟩
theorem elemK_spec {t : TypeId} {ek : TypeId × K} (h : elemK P t = some ek) : P.underlying t = some (.slice ek.1) ∧ kq P ek.1 = some ek.2 := by
 unfold elemK at h
 split at h
 ·obtain ⟨k, hk, h⟩ := Option.bind_eq_some_iff.1 h
  cases h
  exact ⟨‹_›, hk⟩
 ·cases h
theorem func_rel {n : Nat} {cs : List PV} {u : Value} (h : RelV C w S β (.f n cs) u) : ∃ us : List Value, u = .func (.func (C.μ n)) #[] us.toArray ∧ cs.length = us.length ∧ ∀ j (h : j < cs.length) (h' : j < us.length), RelV C w S β cs[j] us[j] := by
 cases h with
 | f _ _ us h1 h2 => exact ⟨us, rfl, h1, h2⟩
theorem field_rel {off : Nat} {k : K} {x v : PV} {u : Value} (hx : RelV C w S β x u) (h : fieldA off k x = some v) :
  ∃ vs : List Value, u = .agg vs.toArray ∧ off + k.size ≤ vs.length ∧ RelV C w S β v (mkV k (fun m => vs.getD (off + m) undef)) := by
 unfold fieldA at h
 split at h
 ·rename_i cs
  split at h
  ·rename_i hle
   split at h
   ·rename_i d hm
    cases h
    cases hx with
    | d _ _ hx =>
    cases hx with
    | a _ vs h1 h2 h3 =>
    refine ⟨vs, rfl, by omega, .d _ _ (mkD_rel hm ?_ ?_)⟩
    ·intro m y hy hmk
     obtain ⟨e1, e2⟩ := getElem?_drop_take hy
     obtain ⟨e3, rfl⟩ := List.getElem?_eq_some_iff.1 e1
     have := h3 (off + m) e3 (by omega)
     simpa [List.getD, List.getElem?_eq_getElem (show off + m < vs.length by omega)] using this
    ·intro m hmk
     simp only [List.getD, List.getElem?_eq_getElem (show off + m < vs.length by omega), Option.getD_some]
     exact h2 _ (List.getElem_mem _)
   ·cases h
  ·cases h
 ·rename_i cs
  split at h
  ·rename_i hle
   cases hx with
   | a _ vs h1 h2 h3 =>
   refine ⟨vs, rfl, by omega, mkP_rel h ?_ ?_⟩
   ·intro m y hy hmk
    obtain ⟨e1, e2⟩ := getElem?_drop_take hy
    obtain ⟨e3, rfl⟩ := List.getElem?_eq_some_iff.1 e1
    have := h3 (off + m) e3 (by omega)
    simpa [List.getD, List.getElem?_eq_getElem (show off + m < vs.length by omega)] using this
   ·intro m hmk
    simp only [List.getD, List.getElem?_eq_getElem (show off + m < vs.length by omega), Option.getD_some]
    exact h2 _ (List.getElem_mem _)
  ·cases h
 ·cases h
theorem run_call_value {o : Oper} {c : Call} (hop : o.op = .call c) {x : Operand} (hc : c.callee = .value x) {f : FuncId} {caps : Array Value} (hx : a.eval x = .func (.func f) #[] caps) {fn : Func} (hfn : P.funcs[f]? = some fn) (hb : fn.body.isNone = false) (hn : fn.name ≠ "runtime.NumGoroutine") :
  (execOp a.eval o).run P w = .ok (.enter f (c.args.map a.eval ++ caps)) w := by
 simp only [execOp, hop, resolve, hc, hx, Deferred.ofValue, Sem.run_bind, Sem.run_pure, Result.andThen_ok, invoke, Array.empty_append]
 exact run_call_func hfn hb hn _
theorem run_call_meth {o : Oper} {c : Call} (hop : o.op = .call c) {x : Operand} (hc : c.callee = .value x) {f : FuncId} {firsts : Array Value} (hx : a.eval x = .func (.func f) firsts #[]) {fn : Func} (hfn : P.funcs[f]? = some fn) (hb : fn.body.isNone = false) (hn : fn.name ≠ "runtime.NumGoroutine") :
  (execOp a.eval o).run P w = .ok (.enter f (firsts ++ (c.args.map a.eval ++ #[]))) w := by
 simp only [execOp, hop, resolve, hc, hx, Deferred.ofValue, Sem.run_bind, Sem.run_pure, Result.andThen_ok, invoke]
 exact run_call_func hfn hb hn _
theorem meth_rel {n : Nat} {cs : List PV} {u : Value} (h : RelV C w S β (.m n cs) u) : ∃ us : List Value, u = .func (.func (C.μ n)) us.toArray #[] ∧ cs.length = us.length ∧ ∀ j (h : j < cs.length) (h' : j < us.length), RelV C w S β cs[j] us[j] := by
 cases h with
 | m _ _ us h1 h2 => exact ⟨us, rfl, h1, h2⟩
theorem lenA_sound (hH : HOK C B w S β H) {str : Bool} {x : PV} {u : Value} {n : Nat} (hx : RelV C w S β x u) (h : lenA H str x = some n) {ts : Array TypeId} {t : TypeId} (ht : ts[0]? = some t)
  (hu : (str = true ∧ P.underlying t = some .string) ∨ (str = false ∧ ∃ e, P.underlying t = some (.slice e))) (ty : TypeId) : (Builtin.len_ ts ty #[u]).run P w = .ok (.int .i64 n) w := by
 rcases lenA_rel hH hx h with ⟨hs, a, cap, rfl⟩ | ⟨hs, s, rfl, hsz⟩
 ·rcases hu with ⟨h1, -⟩ | ⟨-, e, he⟩
  ·rw [hs] at h1; cases h1
  ·simp [Builtin.len_, ht, run_und he, goInt]
 ·rcases hu with ⟨-, he⟩ | ⟨h1, -⟩
  ·simp [Builtin.len_, ht, run_und he, goInt, hsz]
  ·rw [hs] at h1; cases h1
theorem by_val {E : Env} (hO : OrOK P C N E) (hG : GOK N E.G w S) (hS : Swf w S) (hB : B ≤ w.heap.size) (hH : HOK C B w S β H) {o : Oper} (hnd : ∀ c, o.op ≠ .defer c) {f : Nat} {ds : List DV} {us : List Value} {os : List Nat} {r : PV} {own : Bool} {H' : Heap} {id : Nat} {next : Act → World → Prop} {Q : Exit → Act → World → Prop}
  (hrun : (execOp a.eval o).run P w = .ok (.enter (C.μ f) us.toArray) w) (hval : E.val f ds = some (r, own)) (l1 : ds.length = us.length) (l2 : ∀ j (h : j < ds.length) (h' : j < us.length), RelD w (FSq β H os S) ds[j] us[j]) (hH' : (if os.isEmpty || r.scal then H else frz H os) = H')
  (hp : OpPost C B w S β H id r H' fun u w' => next (a.put o.dst u) w') : o.wpIn (FR ro) nf P a w next Q := by
 have hcall := hO.val _ _ _ _ hval w (FSq β H os S) _ (freeze_swf hH hS os) (hG.ext (freeze_ext hH os)) l1 l2
 refine wp_enter hnd hrun hcall ?_
 rintro e w' ⟨u, S', rfl, e1, e2, e3, e4⟩
 refine ⟨u, rfl, ?_⟩
 have hres : ∃ S2, Ext w.heap.size w (FSq β H os S) w' S2 ∧ Swf w' S2 ∧ RelV C w' S2 (fun _ => .pend) r u := by
  cases own with
  | false => exact ⟨S', e1, e2, e3 rfl⟩
  | true =>
   obtain ⟨k, es, rfl, ho⟩ := e4 rfl
   obtain ⟨S2, q1, q2, q3, -⟩ := owned_stable e2 ho
   exact ⟨S2, e1.trans q1, q2, .d _ _ q3⟩
 obtain ⟨S2, g1, g2, g3⟩ := hres
 have froz : OpPost C B w S β H id r (frz H os) (fun u w' => next (a.put o.dst u) w') → next (a.put o.dst u) w' := by
  intro hp
  obtain ⟨b1, b2⟩ := behind_call (freeze_hok hH os) hB g1
  exact hp u w' S2 β ((freeze_ext hH os).trans b1) g2 b2 (Later.refl _) g3.plain (by rw [frz_length]; exact Nat.le_refl _) (Kp.refl _ _ _)
 split at hH'
 ·rename_i hc
  subst hH'
  rcases Bool.or_eq_true _ _ ▸ hc with hc | hc
  ·have : os = [] := by simpa using hc
   subst this
   exact froz hp
  ·have e5 : Ext w.heap.size w S w' (fun b j => S b j ∨ (w.heap.size ≤ b ∧ S2 b j)) :=
    ⟨g1.below, fun _ _ h => .inl h, fun b j h => g1.cell b j (.inl h), fun b j h => h.imp (fun h => h) And.left, g1.shape⟩
   obtain ⟨b1, b2⟩ := behind_call hH hB e5
   refine hp u w' _ β b1 ?_ b2 (Later.refl _) (scal_rel hc g3) (Nat.le_refl _) (Kp.refl _ _ _)
   rintro b j (h | ⟨-, h⟩)
   ·obtain ⟨z, hz⟩ := hS b j h
    exact ⟨z, (g1.cell b j (.inl h)).trans hz⟩
   ·exact g2 b j h
 ·subst hH'; exact froz hp
theorem mapKE_spec {t : TypeId} {m : TypeId × TypeId × Ky} (h : mapKE P t = some m) : ∃ d, P.underlying t = some (.map m.1 m.2.1) ∧ P.underlying m.1 = some d ∧ kyOf d = some m.2.2 := by
 unfold mapKE at h
 split at h
 ·rename_i k e hu
  obtain ⟨d, hd, h⟩ := Option.bind_eq_some_iff.1 h
  obtain ⟨ky, hky, h⟩ := Option.bind_eq_some_iff.1 h
  cases h
  exact ⟨d, hu, hd, hky⟩
 ·cases h
theorem op_sound {E : Env} (hO : OrOK P C N E) (hN : NOK P N C E.G) (hG : GOK N E.G w S) (hS : Swf w S) (hB : B ≤ w.heap.size) (hH : HOK C B w S β H) {fr : Fr} (hf : FOK C w S β fr a) {id : Nat} {o : Oper} {io : IOp}
  (hnd : ∀ c, o.op ≠ .defer c) {yb : Nat} (hY : YOK P C N E.G E.yld B w S β yb) (hyb : yb ≤ H.length) (hd : digOp P N o = some io) (hid : io.adds = true → β id = .pend ∧ id < H.length) {v : PV} {H' : Heap} (h : evalOp E (rd E fr) H id io = some (v, H')) {next : Act → World → Prop} {Q : Exit → Act → World → Prop}
  (hp : OpPost C B w S β H id v H' fun u w' => next (a.put o.dst u) w') : o.wpIn (FR ro) nf P a w next Q := by
 have R : ∀ {t : Option TypeId} {x : Operand} {r : Rand}, rand P N t x = some r → RelV C w S β (rd E fr r) (a.eval x) := fun h => rand_sound hN hG hf h
 have mset : ∀ {t : TypeId} {x i y : Operand}, (o.op = .mapUpdate t x i y ∨ o.op = .insert t x i y) → ((mapKE P t).bind fun m => (rand P N none x).bind fun x => (rand P N (some m.1) i).bind fun i => (kq P m.2.1).bind fun _ => (rand P N (some m.2.1) y).bind fun v => some (IOp.mset m.2.2 x i v)) = some io → o.wpIn (FR ro) nf P a w next Q := by
  intro t x i y hop hd
  obtain ⟨m, hm, hd⟩ := Option.bind_eq_some_iff.1 hd
  obtain ⟨rx, hrx, hd⟩ := Option.bind_eq_some_iff.1 hd
  obtain ⟨ri, hri, hd⟩ := Option.bind_eq_some_iff.1 hd
  obtain ⟨k, hk, hd⟩ := Option.bind_eq_some_iff.1 hd
  obtain ⟨rv, hrv, hd⟩ := Option.bind_eq_some_iff.1 hd
  cases hd
  obtain ⟨d, hu, hkt, hky⟩ := mapKE_spec hm
  have h1 := R hrx
  have h2 := R hri
  simp only [evalOp] at h
  split at h
  ·rename_i k oo xv os hk ho hpu
   rw [ho] at h1
   rw [hk] at h2
   split at h
   ·rename_i hok
    split at h
    ·rename_i es hes
     split at h
     ·rename_i es' hr
      simp only [Option.some.injEq, Prod.mk.injEq] at h
      obtain ⟨rfl, rfl⟩ := h
      exact op_mset hnd hop hu hkt (kyOf_spec hky hok) h1 h2 (R hrv) hpu hes hH hS hr hp
     ·cases h
    ·cases h
   ·cases h
  ·cases h
 cases hop : o.op with
 | move x =>
  simp only [digOp, hop] at hd
  obtain ⟨r, hr, hd⟩ := Option.bind_eq_some_iff.1 hd
  cases hd
  simp only [evalOp, Option.some.injEq, Prod.mk.injEq] at h
  obtain ⟨rfl, rfl⟩ := h
  exact wp_value hnd (by simp [execOp, hop]) (hp.same hH hS (R hr))
 | assign x =>
  simp only [digOp, hop] at hd
  obtain ⟨r, hr, hd⟩ := Option.bind_eq_some_iff.1 hd
  cases hd
  simp only [evalOp, Option.some.injEq, Prod.mk.injEq] at h
  obtain ⟨rfl, rfl⟩ := h
  exact wp_value hnd (by simp [execOp, hop]) (hp.same hH hS (R hr))
 | pick c x y =>
  simp only [digOp, hop] at hd
  obtain ⟨rc, hrc, hd⟩ := Option.bind_eq_some_iff.1 hd
  obtain ⟨rx, hrx, hd⟩ := Option.bind_eq_some_iff.1 hd
  obtain ⟨ry, hry, hd⟩ := Option.bind_eq_some_iff.1 hd
  cases hd
  have hc := R hrc
  simp only [evalOp] at h
  split at h
  ·rename_i hcv
   rw [hcv] at hc
   cases h
   cases hev : a.eval c with
   | bool b =>
    rw [hev] at hc
    cases hc with
    | d _ _ hc =>
    cases hc
    exact wp_value hnd (by simp [execOp, hop, hev, asBool]) (hp.same hH hS (R hrx))
   | _ => rw [hev] at hc; cases hc with | d _ _ hc => cases hc
  ·rename_i hcv
   rw [hcv] at hc
   cases h
   cases hev : a.eval c with
   | bool b =>
    rw [hev] at hc
    cases hc with
    | d _ _ hc =>
    cases hc
    exact wp_value hnd (by simp [execOp, hop, hev, asBool]) (hp.same hH hS (R hry))
   | _ => rw [hev] at hc; cases hc with | d _ _ hc => cases hc
  ·cases h
 | alloc e =>
  simp only [digOp, hop] at hd
  obtain ⟨k, hk, hd⟩ := Option.bind_eq_some_iff.1 hd
  obtain ⟨z, hz, hd⟩ := Option.bind_eq_some_iff.1 hd
  cases hd
  simp only [evalOp, Option.some.injEq, Prod.mk.injEq] at h
  obtain ⟨rfl, rfl⟩ := h
  obtain ⟨h1, h2⟩ := hid rfl
  obtain ⟨k', zv, hk', hzv, hfz, hrz⟩ := zq_rel hz
  rw [hk] at hk'; cases hk'
  obtain ⟨w', β', b1, b2, b3, b4, b5, b6⟩ := new_var (P := P) hH hS hB h1 h2 hfz (.d _ _ (hrz w S)) e
  refine wp_value hnd (u := .pointer (some ⟨w.heap.size, 0, none⟩)) (w' := w') ?_ (hp _ _ S β' b2 (hS.ext b2) b3 b4 b5 (by rw [put_length]; exact Nat.le_refl _) b6)
  simp only [execOp, hop]
  refine run_v ?_
  simp [Instr.alloc, run_zero hzv, b1]
 | box e x =>
  simp only [digOp, hop] at hd
  obtain ⟨k, hk, hd⟩ := Option.bind_eq_some_iff.1 hd
  obtain ⟨r, hr, hd⟩ := Option.bind_eq_some_iff.1 hd
  cases hd
  simp only [evalOp] at h
  split at h
  ·rename_i hfit
   simp only [Option.some.injEq, Prod.mk.injEq] at h
   obtain ⟨rfl, rfl⟩ := h
   obtain ⟨h1, h2⟩ := hid rfl
   obtain ⟨w', β', b1, b2, b3, b4, b5, b6⟩ := new_var (P := P) hH hS hB h1 h2 hfit (R hr) e
   refine wp_value hnd (u := .pointer (some ⟨w.heap.size, 0, none⟩)) (w' := w') ?_ (hp _ _ S β' b2 (hS.ext b2) b3 b4 b5 (by rw [put_length]; exact Nat.le_refl _) b6)
   simp only [execOp, hop]
   refine run_v ?_
   simp [Instr.box, b1]
  ·cases h
 | load t x =>
  simp only [digOp, hop] at hd
  obtain ⟨k, hk, hd⟩ := Option.bind_eq_some_iff.1 hd
  obtain ⟨r, hr, hd⟩ := Option.bind_eq_some_iff.1 hd
  cases hd
  simp only [evalOp, opt] at h
  split at h
  ·rename_i v' hv'
   simp only [Option.some.injEq, Prod.mk.injEq] at h
   obtain ⟨rfl, rfl⟩ := h
   obtain ⟨u, h1, h2⟩ := loadA_sound hH hk (R hr) hv'
   exact wp_value hnd (by simp only [execOp, hop]; exact run_v h1) (hp.same hH hS h2)
  ·cases h
 | store t x y =>
  simp only [digOp, hop] at hd
  obtain ⟨k, hk, hd⟩ := Option.bind_eq_some_iff.1 hd
  obtain ⟨rx, hrx, hd⟩ := Option.bind_eq_some_iff.1 hd
  obtain ⟨ry, hry, hd⟩ := Option.bind_eq_some_iff.1 hd
  cases hd
  simp only [evalOp] at h
  split at h
  ·rename_i H1 hH1
   simp only [Option.some.injEq, Prod.mk.injEq] at h
   obtain ⟨rfl, rfl⟩ := h
   obtain ⟨w', S', b1, b2, b3, b4, b5⟩ := storeA_sound hH hS hk (R hrx) (R hry) hH1
   exact wp_opskip hnd (by simp only [execOp, hop]; exact run_u b1) (hp _ _ S' β b2 b3 b4 (Later.refl _) (.u _) (by omega) (Kp.refl _ _ _))
  ·cases h
 | extract x i =>
  simp only [digOp, hop] at hd
  obtain ⟨r, hr, hd⟩ := Option.bind_eq_some_iff.1 hd
  cases hd
  have hx := R hr
  simp only [evalOp] at h
  split at h
  ·rename_i vs hvs
   rw [hvs] at hx
   cases hev : a.eval x with
   | tuple us =>
    rw [hev] at hx
    generalize hus : us = us' at hx
    cases hx with
    | t _ vs' h1 h2 =>
    simp only [opt] at h
    split at h
    ·rename_i v' hv'
     simp only [Option.some.injEq, Prod.mk.injEq] at h
     obtain ⟨rfl, rfl⟩ := h
     obtain ⟨hi, rfl⟩ := List.getElem?_eq_some_iff.1 hv'
     have hi' : i < vs'.length := by omega
     refine wp_value hnd (u := vs'[i]) ?_ (hp.same hH hS (h2 i hi hi'))
     simp only [execOp, hop]
     refine run_v ?_
     simp [Instr.extract, hev, hus, List.getElem?_eq_getElem hi']
    ·cases h
   | _ => rw [hev] at hx; cases hx
  ·cases h
 | unOp op t x =>
  simp only [digOp, hop] at hd
  obtain ⟨r, hr, hd⟩ := Option.bind_eq_some_iff.1 hd
  cases hd
  simp only [evalOp, optD] at h
  split at h
  ·rename_i d hdv
   simp only [Option.some.injEq, Prod.mk.injEq] at h
   obtain ⟨rfl, rfl⟩ := h
   obtain ⟨u, h1, h2⟩ := unA_rel (P := P) (R hr) hdv
   exact wp_value hnd (by simp only [execOp, hop]; exact run_v h1) (hp.same hH hS (.d _ _ h2))
  ·cases h
 | convert s t x =>
  simp only [digOp, hop] at hd
  obtain ⟨r, hr, hd⟩ := Option.bind_eq_some_iff.1 hd
  split at hd
  ·rename_i k1 k hs ht
   cases hd
   have hx := R hr
   simp only [evalOp] at h
   split at h
   ·rename_i k2 n hn
    rw [hn] at hx
    simp only [Option.some.injEq, Prod.mk.injEq] at h
    obtain ⟨rfl, rfl⟩ := h
    obtain ⟨k3, hk3⟩ := asI_rel hx rfl
    refine wp_value hnd (u := .int k (k.wrap n)) ?_ (hp.same hH hS (.d _ _ (.i _ _)))
    simp only [execOp, hop]
    refine run_v ?_
    simp [convert, run_und hs, run_und ht, hk3, Conv.intToInt]
   ·cases h
  ·rename_i hs ht
   cases hd
   have hx := R hr
   simp only [evalOp] at h
   split at h
   ·rename_i l hl
    rw [hl] at hx
    obtain ⟨z, hax, hz⟩ := s_rel hx
    have hv : v = .d (.s l) ∧ H' = H := by
     simp [bnd] at h
     exact ⟨h.1.symm, h.2.symm⟩
    obtain ⟨rfl, rfl⟩ := hv
    refine wp_value hnd (u := a.eval x) ?_ (hp.same hH hS hx)
    simp only [execOp, hop]
    refine run_v ?_
    simp [convert, run_und hs, run_und ht, hax]
   ·cases h
  ·rename_i e hs ht
   split at hd
   ·rename_i he
    cases hd
    have hx := R hr
    simp only [evalOp] at h
    generalize rd E fr r = y at h hx
    split at h
    ·cases h
    ·rename_i hns
     exact conv_sb hnd hop hs ht he hx hH (fun z hz => hns z hz) h hS hp
   ·cases hd
  ·rename_i e hs ht
   split at hd
   ·rename_i he
    cases hd
    have hx := R hr
    simp only [evalOp] at h
    split at h
    ·rename_i l hl
     rw [hl] at hx
     simp only [Option.some.injEq, Prod.mk.injEq] at h
     obtain ⟨rfl, rfl⟩ := h
     exact conv_bs hnd hop hs ht he hx hH hB hS hp
    ·cases h
   ·cases hd
  ·cases hd
 | fieldAddr s x f =>
  simp only [digOp, hop] at hd
  obtain ⟨fd, hfd, hd⟩ := Option.bind_eq_some_iff.1 hd
  obtain ⟨k, hk, hd⟩ := Option.bind_eq_some_iff.1 hd
  obtain ⟨r, hr, hd⟩ := Option.bind_eq_some_iff.1 hd
  split at hd
  ·cases hd
  ·rename_i hz
   cases hd
   simp only [evalOp, opt] at h
   split at h
   ·rename_i v' hv'
    simp only [Option.some.injEq, Prod.mk.injEq] at h
    obtain ⟨rfl, rfl⟩ := h
    obtain ⟨blk, o', h1, h2⟩ := moveA_rel (R hr) hv'
    refine wp_value hnd ?_ (hp.same hH hS h2)
    simp only [execOp, hop, h1]
    exact run_v (run_fieldAt hfd hk hz blk o' w)
   ·cases h
 | nilCheck x =>
  simp only [digOp, hop] at hd
  obtain ⟨r, hr, hd⟩ := Option.bind_eq_some_iff.1 hd
  cases hd
  have hx := R hr
  simp only [evalOp] at h
  have fin : ∀ v' : PV, (∀ u, RelV C w S β v' u → (∃ p, u = .pointer (some p)) ∨ ∃ f cs, u = .func (.func f) #[] cs) → RelV C w S β v' (a.eval x) → v' = v → H' = H → o.wpIn (FR ro) nf P a w next Q := by
   intro v' hc hrel hv hH'
   subst hv hH'
   refine wp_value hnd (u := a.eval x) ?_ (hp.same hH hS hrel)
   rcases hc _ hrel with ⟨p, hu⟩ | ⟨f, cs, hu⟩ <;> simp [execOp, hop, hu]
  split at h
  ·rename_i o' i c hv
   simp only [Option.some.injEq, Prod.mk.injEq] at h
   rw [hv] at hx
   refine fin _ ?_ hx h.1 h.2.symm
   intro u hu
   cases hu with
   | p _ _ _ _ h0 hp =>
   unfold RelPt at hp
   split at hp
   ·exact hp.elim
   ·obtain ⟨_, _, rfl⟩ := hp; exact .inl ⟨_, rfl⟩
   ·exact hp.elim
   ·subst hp; exact .inl ⟨_, rfl⟩
   ·exact hp.elim
  ·rename_i hv
   simp only [Option.some.injEq, Prod.mk.injEq] at h
   rw [hv] at hx
   refine fin _ ?_ hx h.1 h.2.symm
   intro u hu
   cases hu
   exact .inl ⟨_, rfl⟩
  ·rename_i hv
   simp only [Option.some.injEq, Prod.mk.injEq] at h
   rw [hv] at hx
   refine fin _ ?_ hx h.1 h.2.symm
   intro u hu
   cases hu
   exact .inr ⟨_, _, rfl⟩
  ·cases h
 | build t parts =>
  simp only [digOp, hop] at hd
  obtain ⟨z, hz, hd⟩ := Option.bind_eq_some_iff.1 hd
  split at hd
  ·rename_i fs hu
   split at hd
   ·rename_i hall
    obtain ⟨ps, hps, hd⟩ := Option.bind_eq_some_iff.1 hd
    cases hd
    have hpr := partsOf_sound hN hG hf hps
    simp only [evalOp] at h
    split at h
    ·rename_i cs hcs
     simp only [Option.some.injEq, Prod.mk.injEq] at h
     obtain ⟨rfl, rfl⟩ := h
     have hpr' : PartsRel C w S β (fun i => (fs[i]?).map fun f => (f.offset, P.cellsOf f.type)) (ps.map fun x => (x.1, x.2.1, rd E fr x.2.2)) (parts.toList.map fun x => (x.1, a.eval x.2)) := by
      have e : (fun (i : Nat) => ((fs[i]?).map fun (f : Field) => (f.offset, f.type)).map fun p => (p.1, P.cellsOf p.2)) = (fun (i : Nat) => (fs[i]?).map fun (f : Field) => (f.offset, P.cellsOf f.type)) := by
       funext i; cases fs[i]? <;> rfl
      rw [← e]; exact hpr
     obtain ⟨u, h1, h2⟩ := build_struct_sound hz hu hall hpr' hcs
     refine wp_value hnd (u := u) ?_ (hp.same hH hS h2)
     simp only [execOp, hop]
     refine run_v ?_
     have : parts.map (fun x => (x.1, a.eval x.2)) = (parts.toList.map fun x => (x.1, a.eval x.2)).toArray := by
      apply Array.ext'; simp
     rw [← h1, ← this]
    ·cases h
   ·cases hd
  ·rename_i n e hu
   obtain ⟨k, hk, hd⟩ := Option.bind_eq_some_iff.1 hd
   obtain ⟨ps, hps, hd⟩ := Option.bind_eq_some_iff.1 hd
   cases hd
   have hpr := partsOf_sound hN hG hf hps
   simp only [evalOp] at h
   split at h
   ·rename_i cs hcs
    simp only [Option.some.injEq, Prod.mk.injEq] at h
    obtain ⟨rfl, rfl⟩ := h
    obtain ⟨u, h1, h2⟩ := build_array_sound hz hu hk hpr hcs
    refine wp_value hnd (u := u) ?_ (hp.same hH hS h2)
    simp only [execOp, hop]
    refine run_v ?_
    have : parts.map (fun x => (x.1, a.eval x.2)) = (parts.toList.map fun x => (x.1, a.eval x.2)).toArray := by
     apply Array.ext'; simp
    rw [← h1, ← this]
   ·cases h
  ·cases hd
 | buildSlice t n parts =>
  simp only [digOp, hop] at hd
  obtain ⟨ek, hek, hd⟩ := Option.bind_eq_some_iff.1 hd
  obtain ⟨z, hz, hd⟩ := Option.bind_eq_some_iff.1 hd
  obtain ⟨ps, hps, hd⟩ := Option.bind_eq_some_iff.1 hd
  split at hd
  ·rename_i hn
   cases hd
   obtain ⟨hu, hk⟩ := elemK_spec hek
   have hpr := partsS_sound hN hG hf hps
   obtain ⟨h1, h2⟩ := hid rfl
   simp only [evalOp] at h
   split at h
   ·rename_i es os hes
    simp only [Option.some.injEq, Prod.mk.injEq] at h
    obtain ⟨rfl, rfl⟩ := h
    obtain ⟨kz, zv, hkz, hzv, hfz, hrz⟩ := zq_rel hz
    rw [hk] at hkz; cases hkz
    have hH1 := freeze_hok hH os
    have hext1 := freeze_ext hH os
    have hS1 := freeze_swf hH hS os
    have hrow := zrow (w := w) (S := FSq β H os S) (n := n) hfz hrz (if n * ek.2.size = 0 then #[] else zv.cells) (fun h => by rw [if_neg h])
    obtain ⟨A', c1, c2, c3, c4⟩ := bslA_sound hH (FSq β H os S) (fun _ _ h => .inl h) (fun _ _ h => h) hrow hpr hes
    have hlen : es.length = n := by rw [c3, List.length_replicate]
    have hAlen : A'.length = n * ek.2.size := by rw [c4]; simp
    obtain ⟨a1, a2, a3, a4⟩ := new_row_at hH1 hS1 hB h1 (by rw [frz_length]; exact h2) c2 ek.1 0 (len := n) (cap := n) (tt := true) (by rw [hAlen]; exact Nat.le_refl _) (Nat.le_refl _) (fun _ => rfl)
    refine wp_value hnd ?_ (hp _ _ _ _ (hext1.trans a1) (hS1.ext a1) a2 a3 a4 (by rw [put_length, frz_length]; exact Nat.le_refl _) (kp_upd _ _ _ _))
    simp only [execOp, hop]
    refine run_v ?_
    have hparts : parts.map (fun x => (x.1, a.eval x.2)) = (parts.toList.map fun x => (x.1, a.eval x.2)).toArray := by
     apply Array.ext'; simp
    have hbig : ¬ (n * ek.2.size > 2 ^ 24) := by omega
    have hz0 : (if n * ek.2.size = 0 then pure #[] else do pure (← zeroValue ek.1).cells : Sem (Array Value)).run P w = .ok (if n * ek.2.size = 0 then #[] else zv.cells) w := by
     split
     ·rfl
     ·simp [run_zero hzv]
    have hfill : Instr.fill (fun i => some (i * ek.2.size, ek.2.size)) ((Array.range (n * ek.2.size)).map ((if n * ek.2.size = 0 then #[] else zv.cells)[· % (if n * ek.2.size = 0 then #[] else zv.cells).size]!)) (parts.map (fun x => (x.1, a.eval x.2))).toList = some A'.toArray := by
     rw [hparts]
     rw [Array.toArray_toList] at c1
     exact c1
    have hrun : (Instr.buildSlice t n (parts.map (fun x => (x.1, a.eval x.2)))).run P w = .ok (.slice (some ⟨w.heap.size, 0, none⟩) n n) (w.alloc (.cells A'.toArray ek.1)) := by
     by_cases h0 : n * ek.2.size = 0
     ·rw [if_pos h0] at hfill
      simp only [Instr.buildSlice, Sem.run_bind, run_und hu, Result.andThen_ok, run_sizeK hk, Sem.run_ite, hbig, if_false]
      rw [if_pos h0]
      simp only [Sem.run_pure, Result.andThen_ok, hfill]
      simp [newRow]
     ·rw [if_neg h0] at hfill
      simp only [Instr.buildSlice, Sem.run_bind, run_und hu, Result.andThen_ok, run_sizeK hk, Sem.run_ite, hbig, if_false, h0, run_zero hzv, Sem.run_pure, hfill]
      simp [newRow]
    exact hrun
   ·cases h
  ·cases hd
 | binOp op t x y ty =>
  simp only [digOp, hop] at hd
  obtain ⟨rx, hrx, hd⟩ := Option.bind_eq_some_iff.1 hd
  obtain ⟨ry, hry, hd⟩ := Option.bind_eq_some_iff.1 hd
  have bin : evalOp E (rd E fr) H id (.bin op rx ry) = some (v, H') → o.wpIn (FR ro) nf P a w next Q := by
   intro h
   simp only [evalOp, optD] at h
   split at h
   ·rename_i d hdv
    simp only [Option.some.injEq, Prod.mk.injEq] at h
    obtain ⟨rfl, rfl⟩ := h
    obtain ⟨u, h1, h2, h3⟩ := binA_rel (P := P) (t := t) (R hrx) (R hry) hdv x y
    refine wp_value hnd (u := u) ?_ (hp.same hH hS (.d _ _ h3))
    simp only [execOp, hop]
    refine run_v ?_
    simp [h1, h2]
   ·cases h
  have eqb : ∀ neg, (op = .eql ∧ neg = false ∨ op = .neq ∧ neg = true) → P.underlying t = some .bool → evalOp E (rd E fr) H id (.eqb neg rx ry) = some (v, H') → o.wpIn (FR ro) nf P a w next Q := by
   intro neg hneg hu h
   have hx := R hrx
   have hy := R hry
   simp only [evalOp] at h
   split at h
   ·rename_i b1 b2 h1 h2
    simp only [Option.some.injEq, Prod.mk.injEq] at h
    obtain ⟨rfl, rfl⟩ := h
    rw [h1] at hx
    rw [h2] at hy
    have e1 := bool_rel hx
    have e2 := bool_rel hy
    have heq := run_equalIn_bool' (P := P) w 9999 t b1 b2 hu
    rcases hneg with ⟨rfl, rfl⟩ | ⟨rfl, rfl⟩
    ·refine wp_value hnd (u := .bool (b1 == b2)) ?_ (hp.same hH hS (.d _ _ (.b _)))
     simp only [execOp, hop, e1, e2]
     refine run_v ?_
     simp [eqGuard, binOp, Op.equal, Op.maxDepth, heq]
    ·refine wp_value hnd (u := .bool (!(b1 == b2))) ?_ (hp.same hH hS (.d _ _ (.b _)))
     simp only [execOp, hop, e1, e2]
     refine run_v ?_
     simp [eqGuard, binOp, Op.equal, Op.maxDepth, heq]
   ·cases h
  have eqv : ∀ fs, P.underlying t = some (.struct fs) → (op = .eql ∨ op = .neq) → (if P.eqGuardType P.depth t then none else (eqKs P 8 t).bind fun ks => some (.eqv (op == .neq) ks rx ry)) = some io → o.wpIn (FR ro) nf P a w next Q := by
   intro fs hu hop' hd
   split at hd
   ·cases hd
   ·rename_i hm
    obtain ⟨ks, hks, hd⟩ := Option.bind_eq_some_iff.1 hd
    cases hd
    simp only [evalOp] at h
    split at h
    ·rename_i e he
     simp only [Option.some.injEq, Prod.mk.injEq] at h
     obtain ⟨rfl, rfl⟩ := h
     obtain ⟨h1, h2⟩ := eqA_rel hu hks (by simpa using hm) (R hrx) (R hry) he x y op hop'
     refine wp_value hnd (u := .bool (if op == .neq then !e else e)) ?_ (hp.same hH hS (.d _ _ (.b _)))
     simp only [execOp, hop]
     refine run_v ?_
     simp [h1, h2]
    ·cases h
  have nilc : (op = .eql ∨ op = .neq) → ∀ d, P.underlying t = some d → ((kNil d).bind fun kd => if nilD kd ry then some (.isnil (op == .neq) kd rx) else if nilD kd rx then some (.isnil (op == .neq) kd ry) else none) = some io → o.wpIn (FR ro) nf P a w next Q := by
   intro hop' d hu hd
   obtain ⟨kd, hkd, hd⟩ := Option.bind_eq_some_iff.1 hd
   split at hd
   ·rename_i hn
    cases hd
    obtain ⟨c, rfl, hc⟩ := nilD_rel hry hn
    simp only [evalOp] at h
    split at h
    ·rename_i b hb
     simp only [Option.some.injEq, Prod.mk.injEq] at h
     obtain ⟨rfl, rfl⟩ := h
     refine wp_value hnd (u := .bool (if op == .neq then !b else b)) ?_ (hp.same hH hS (.d _ _ (.b _)))
     simp only [execOp, hop]
     refine run_v ?_
     have := (run_isnil (P := P) (w := w) (x := x) (y := .const c) hop' (R hrx) hkd hb hu).1 ⟨c, rfl⟩
     simpa only [Act.eval, hc] using this
    ·cases h
   ·split at hd
    ·rename_i hn
     cases hd
     obtain ⟨c, rfl, hc⟩ := nilD_rel hrx hn
     simp only [evalOp] at h
     split at h
     ·rename_i b hb
      simp only [Option.some.injEq, Prod.mk.injEq] at h
      obtain ⟨rfl, rfl⟩ := h
      refine wp_value hnd (u := .bool (if op == .neq then !b else b)) ?_ (hp.same hH hS (.d _ _ (.b _)))
      simp only [execOp, hop]
      refine run_v ?_
      have := (run_isnil (P := P) (w := w) (x := .const c) (y := y) hop' (R hry) hkd hb hu).2 ⟨c, rfl⟩
      simpa only [Act.eval, hc] using this
     ·cases h
    ·cases hd
  unfold digBin at hd
  split at hd
  ·split at hd
   ·cases hd; exact bin h
   ·cases hd; exact bin h
   ·rename_i hu; cases hd; exact eqb _ (.inl ⟨rfl, rfl⟩) hu h
   ·rename_i fs hu; exact eqv fs hu (.inl rfl) hd
   ·rename_i d _ _ _ _ hu; exact nilc (.inl rfl) d hu hd
   ·cases hd
  ·split at hd
   ·cases hd; exact bin h
   ·cases hd; exact bin h
   ·rename_i hu; cases hd; exact eqb _ (.inr ⟨rfl, rfl⟩) hu h
   ·rename_i fs hu; exact eqv fs hu (.inr rfl) hd
   ·rename_i d _ _ _ _ hu; exact nilc (.inr rfl) d hu hd
   ·cases hd
  ·cases hd; exact bin h
 | makeFunc fn first caps =>
  simp only [digOp, hop] at hd
  cases fn with
  | func f =>
   simp only at hd
   split at hd
   ·rename_i hfs
    obtain ⟨x, hx, hd⟩ := Option.bind_eq_some_iff.1 hd
    obtain ⟨cs, hcs, hd⟩ := Option.bind_eq_some_iff.1 hd
    cases hd
    simp only [evalOp, Option.some.injEq, Prod.mk.injEq] at h
    obtain ⟨rfl, rfl⟩ := h
    obtain ⟨h1, h2⟩ := rands_sound hN hG hf hcs
    have hrel := RelV.f (C := C) (w := w) (S := S) (β := β) x.1 (cs.map (rd E fr)) (caps.toList.map a.eval) (by simp [h1]) h2
    refine wp_value hnd (u := .func (.func (C.μ x.1)) #[] (caps.toList.map a.eval).toArray) ?_ (hp.same hH hS hrel)
    simp only [execOp, hop]
    refine run_v ?_
    have hf0 : first = #[] := by simpa using hfs
    subst hf0
    have : caps.map a.eval = (caps.toList.map a.eval).toArray := by apply Array.ext'; simp
    simp only [Instr.makeFunc, hN.f f x hx, this, Array.map_empty, Sem.run_pure]
   ·split at hd
    ·rename_i hcs0
     obtain ⟨x, hx, hd⟩ := Option.bind_eq_some_iff.1 hd
     obtain ⟨cs, hcs, hd⟩ := Option.bind_eq_some_iff.1 hd
     cases hd
     simp only [evalOp, Option.some.injEq, Prod.mk.injEq] at h
     obtain ⟨rfl, rfl⟩ := h
     obtain ⟨h1, h2⟩ := rands_sound hN hG hf hcs
     have hrel := RelV.m (C := C) (w := w) (S := S) (β := β) x.1 (cs.map (rd E fr)) (first.toList.map a.eval) (by simp [h1]) h2
     refine wp_value hnd (u := .func (.func (C.μ x.1)) (first.toList.map a.eval).toArray #[]) ?_ (hp.same hH hS hrel)
     simp only [execOp, hop]
     refine run_v ?_
     have hc0 : caps = #[] := by simpa using hcs0
     subst hc0
     have : first.map a.eval = (first.toList.map a.eval).toArray := by apply Array.ext'; simp
     simp only [Instr.makeFunc, hN.f f x hx, this, Array.map_empty, Sem.run_pure]
    ·cases hd
  | _ => cases hd
 | makeSlice t l c =>
  simp only [digOp, hop] at hd
  obtain ⟨ek, hek, hd⟩ := Option.bind_eq_some_iff.1 hd
  obtain ⟨z, hz, hd⟩ := Option.bind_eq_some_iff.1 hd
  obtain ⟨rl, hrl, hd⟩ := Option.bind_eq_some_iff.1 hd
  obtain ⟨rc, hrc, hd⟩ := Option.bind_eq_some_iff.1 hd
  split at hd
  ·cases hd
  ·rename_i hb0
   cases hd
   obtain ⟨hu, hk⟩ := elemK_spec hek
   obtain ⟨h1, h2⟩ := hid rfl
   simp only [evalOp] at h
   split at h
   ·rename_i n c' hn hc
    split at h
    ·rename_i hcnd
     simp only [Option.some.injEq, Prod.mk.injEq] at h
     obtain ⟨rfl, rfl⟩ := h
     obtain ⟨ur, w', e1, e2⟩ := mksl_sound hH hS hB h1 h2 hu hk hz hb0 (R hrl) (R hrc) hn hc hcnd
     exact wp_value hnd (by simp only [execOp, hop]; exact run_v e1) (hp.of_leaves e2)
    ·cases h
   ·cases h
 | slice t x lo hi mx =>
  simp only [digOp, hop] at hd
  obtain ⟨rx, hrx, hd⟩ := Option.bind_eq_some_iff.1 hd
  obtain ⟨rlo, hrlo, hd⟩ := Option.bind_eq_some_iff.1 hd
  obtain ⟨rhi, hrhi, hd⟩ := Option.bind_eq_some_iff.1 hd
  obtain ⟨rmx, hrmx, hd⟩ := Option.bind_eq_some_iff.1 hd
  have h1 := randO_sound hN hG hf hrlo
  have h2 := randO_sound hN hG hf hrhi
  have h3 := randO_sound hN hG hf hrmx
  split at hd
  ·rename_i hu
   split at hd
   ·rename_i hmx
    cases hd
    have hmx0 : mx = none := by
     cases mx with
     | none => rfl
     | some m =>
      simp only [randO, Option.map_eq_some_iff] at hrmx
      obtain ⟨_, _, rfl⟩ := hrmx
      simp at hmx
    subst hmx0
    have hx := R hrx
    simp only [evalOp] at h
    split at h
    ·rename_i s hs
     rw [hs] at hx
     split at h
     ·rename_i hh hhh
      split at h
      ·rename_i l hl
       simp only [Option.some.injEq, Prod.mk.injEq] at h
       obtain ⟨rfl, rfl⟩ := h
       obtain ⟨u, e1, e2⟩ := slS_rel (P := P) hu hx h1 h2 hhh hl
       exact wp_value hnd (by simp only [execOp, hop]; exact run_v e1) (hp.same hH hS (.d _ _ e2))
      ·cases h
     ·cases h
    ·cases h
   ·cases hd
  ·rename_i e hu
   obtain ⟨k, hk, hd⟩ := Option.bind_eq_some_iff.1 hd
   split at hd
   ·cases hd
   ·rename_i hmh
    cases hd
    simp only [evalOp, opt] at h
    split at h
    ·rename_i v' hv'
     simp only [Option.some.injEq, Prod.mk.injEq] at h
     obtain ⟨rfl, rfl⟩ := h
     obtain ⟨u, e1, e2⟩ := sl_sound hH hu hk (R hrx) h1 h2 h3 (by cases rmx <;> cases rhi <;> simp_all) hv'
     exact wp_value hnd (by simp only [execOp, hop]; exact run_v e1) (hp.same hH hS e2)
    ·cases h
  ·cases hd
 | field s x f =>
  simp only [digOp, hop] at hd
  obtain ⟨fd, hfd, hd⟩ := Option.bind_eq_some_iff.1 hd
  obtain ⟨k, hk, hd⟩ := Option.bind_eq_some_iff.1 hd
  obtain ⟨r, hr, hd⟩ := Option.bind_eq_some_iff.1 hd
  cases hd
  have hx := R hr
  simp only [evalOp, opt] at h
  split at h
  case h_2 => cases h
  rename_i v' hv'
  simp only [Option.some.injEq, Prod.mk.injEq] at h
  obtain ⟨rfl, rfl⟩ := h
  have h := hv'
  obtain ⟨vs, e1, e2, e3⟩ := field_rel hx h
  refine wp_value hnd ?_ (hp.same hH hS e3)
  simp only [execOp, hop]
  refine run_v ?_
  unfold fieldAt at hfd
  split at hfd
  ·rename_i fs hu
   simp [Instr.field, run_und hu, hfd, e1, asAgg, run_part hk e2]
  ·cases hfd
 | indexAddr t x i =>
  simp only [digOp, hop] at hd
  obtain ⟨rx, hrx, hd⟩ := Option.bind_eq_some_iff.1 hd
  obtain ⟨ri, hri, hd⟩ := Option.bind_eq_some_iff.1 hd
  split at hd
  ·rename_i n e hu
   obtain ⟨k, hk, hd⟩ := Option.bind_eq_some_iff.1 hd
   cases hd
   simp only [evalOp] at h
   split at h
   ·rename_i m hm
    obtain ⟨ki, hki⟩ := asI_rel (R hri) hm
    split at h
    ·rename_i j hj
     simp only [opt] at h
     split at h
     ·rename_i v' hv'
      simp only [Option.some.injEq, Prod.mk.injEq] at h
      obtain ⟨rfl, rfl⟩ := h
      obtain ⟨blk, o', e1, e2⟩ := moveA_rel (R hrx) hv'
      refine wp_value hnd ?_ (hp.same hH hS e2)
      simp only [execOp, hop, e1, hki]
      exact run_v (run_indexAt_arr hu hk hj ki blk o' w)
     ·cases h
    ·cases h
   ·cases h
  ·rename_i e hu
   obtain ⟨k, hk, hd⟩ := Option.bind_eq_some_iff.1 hd
   cases hd
   simp only [evalOp, opt] at h
   split at h
   ·rename_i v' hv'
    simp only [Option.some.injEq, Prod.mk.injEq] at h
    obtain ⟨rfl, rfl⟩ := h
    obtain ⟨u, e1, e2⟩ := iaddr_sound hH hu hk (R hrx) (R hri) hv'
    exact wp_value hnd (by simp only [execOp, hop]; exact run_v e1) (hp.same hH hS e2)
   ·cases h
  ·cases hd
 | index t x i =>
  simp only [digOp, hop] at hd
  obtain ⟨rx, hrx, hd⟩ := Option.bind_eq_some_iff.1 hd
  obtain ⟨ri, hri, hd⟩ := Option.bind_eq_some_iff.1 hd
  split at hd
  ·rename_i n e hu
   obtain ⟨k, hk, hd⟩ := Option.bind_eq_some_iff.1 hd
   cases hd
   simp only [evalOp] at h
   split at h
   ·rename_i m hm
    obtain ⟨ki, hki⟩ := asI_rel (R hri) hm
    split at h
    ·rename_i j hj
     simp only [opt] at h
     split at h
     case h_2 => cases h
     rename_i v' hv'
     simp only [Option.some.injEq, Prod.mk.injEq] at h
     obtain ⟨rfl, rfl⟩ := h
     have h := hv'
     obtain ⟨vs, e1, e2, e3⟩ := field_rel (R hrx) h
     refine wp_value hnd ?_ (hp.same hH hS e3)
     simp only [execOp, hop]
     refine run_v ?_
     obtain ⟨q1, q2, q3, q4⟩ := inR_spec hj
     subst q3
     simp [Instr.index, run_und hu, e1, hki, asIntOf, q1, q2, run_sizeK hk, run_part hk e2]
    ·cases h
   ·cases h
  ·rename_i hu
   cases hd
   simp only [evalOp] at h
   split at h
   ·rename_i s n hs hn
    split at h
    ·rename_i h0
     split at h
     ·rename_i b hb
      simp only [Option.some.injEq, Prod.mk.injEq] at h
      obtain ⟨rfl, rfl⟩ := h
      have := idxS_rel (P := P) hu (R hrx) (R hri) hs hn h0 hb
      exact wp_value hnd (by simp only [execOp, hop]; exact run_v this) (hp.same hH hS (.d _ _ (.i _ _)))
     ·cases h
    ·cases h
   ·cases h
  ·cases hd
 | call c =>
  simp only [digOp, hop] at hd
  unfold digCall at hd
  have len1 : ∀ {ts : List (Option TypeId)} {rs : List Rand}, rands P N ts c.args.toList = some rs → rs.length = c.args.size := fun h => by
   have := (rands_sound hN hG hf h).1
   simpa using this
  split at hd
  ·
   rename_i f hcal
   obtain ⟨fn, hfn, hd⟩ := Option.bind_eq_some_iff.1 hd
   obtain ⟨as0, has, hd⟩ := Option.bind_eq_some_iff.1 hd
   split at hd
   ·rename_i hbody
    obtain ⟨p, hp2, hd⟩ := Option.bind_eq_some_iff.1 hd
    cases hd
    obtain ⟨r1, r2⟩ := rands_sound hN hG hf has
    simp only [evalOp, opt] at h
    split at h
    ·rename_i v' hv'
     simp only [Option.some.injEq, Prod.mk.injEq] at h
     obtain ⟨rfl, rfl⟩ := h
     obtain ⟨u, e1, e2⟩ := prim_sound (P := P) (w := w) hp2 hfn hbody (by simp [r1]) r2 hv'
     refine wp_value hnd ?_ (hp.same hH hS e2)
     have hev : a.eval (.func f) = .func (.func f) #[] #[] := rfl
     have hargs2 : c.args.map a.eval ++ #[] = (c.args.toList.map a.eval).toArray := by apply Array.ext'; simp
     simp only [execOp, hop, resolve, hcal, hev, Deferred.ofValue, Sem.run_bind, Sem.run_pure, Result.andThen_ok, invoke, Array.empty_append, hargs2, e1]
    ·cases h
   ·rename_i hbody
    split at hd
    ·cases hd
    ·rename_i hname
     obtain ⟨x, hx, hd⟩ := Option.bind_eq_some_iff.1 hd
     cases hd
     obtain ⟨r1, r2⟩ := rands_sound hN hG hf has
     have hrun := run_call_value (P := P) (w := w) (a := a) hop hcal (caps := #[]) (f := f) rfl hfn (by cases hq : fn.body <;> simp_all) hname
     have hargs : c.args.map a.eval ++ #[] = (c.args.toList.map a.eval).toArray := by apply Array.ext'; simp
     rw [hargs] at hrun
     have hμ := hN.f f x hx
     have hlen : (as0.map (rd E fr)).length = (c.args.toList.map a.eval).length := by simp [r1]
     rcases hm : x.2 with _ | _ | m
     ·
      rw [hm] at h hid
      simp only [evalOp] at h
      split at h
      ·rename_i ds os hpur
       split at h
       ·rename_i r own hval
        simp only [Option.some.injEq, Prod.mk.injEq] at h
        obtain ⟨rfl, hH'⟩ := h
        obtain ⟨l1, l2⟩ := call_args hH hpur hlen r2
        rw [← hμ] at hrun
        exact by_val hO hG hS hB hH hnd hrun hval l1 l2 hH' hp
       ·cases h
      ·cases h
     ·
      rw [hm] at h hid
      obtain ⟨i1, i2⟩ := hid rfl
      simp only [evalOp] at h
      split at h
      ·rename_i ds os hpur
       split at h
       ·rename_i k es tt hval
        simp only [Option.some.injEq, Prod.mk.injEq] at h
        obtain ⟨rfl, hH'⟩ := h
        have hH'' : (frz H os).put id (some (.sl k 0 es)) = H' := by
         rw [← hH']
         split
         ·rename_i hc
          have : os = [] := by simpa using hc
          subst this; rfl
         ·rfl
        subst hH''
        obtain ⟨l1, l2⟩ := call_args hH hpur hlen r2
        have hcall := hO.val _ _ _ _ hval w (FSq β H os S) _ (freeze_swf hH hS os) (hG.ext (freeze_ext hH os)) l1 l2
        rw [hμ] at hcall
        refine wp_enter hnd hrun hcall ?_
        rintro e w' ⟨u, S', rfl, e1, e2, -, e4⟩
        refine ⟨u, rfl, ?_⟩
        obtain ⟨k', es', hke, ho⟩ := e4 rfl
        cases hke
        obtain ⟨b1, b2⟩ := behind_call (freeze_hok hH os) hB e1
        have i2' : id < (frz H os).length := by rw [frz_length]; exact i2
        rcases ho with ⟨rfl, ad, rfl⟩ | ⟨blk, off, cap, cells, et, rfl, q1, q2, q3, q4, q5, q6⟩
        ·obtain ⟨v1, v2⟩ := hok_virt b2 i1 i2' k 0
         refine hp _ w' S' _ ((freeze_ext hH os).trans b1) e2 v1 v2 (.r _ _ _ _ _ _ rfl ?_) (by rw [put_length, frz_length]; exact Nat.le_refl _) (kp_upd _ _ _ _)
         unfold RelRf
         rw [upd_same]
         exact ⟨rfl, rfl, ad, rfl⟩
        ·have hoc : OCells C w' S' β cells blk off (.sl k 0 es) := by
          obtain ⟨p0, cf, p1, p2⟩ := q6
          refine ⟨?_, cf, ?_, p2, ?_⟩
          ·have : es.length * k.size ≤ cap * k.size := Nat.mul_le_mul_right _ q1
           omega
          ·intro j hj m hm
           have := p1 j hj m hm
           rw [List.getElem?_drop] at this
           rw [Nat.add_assoc]
           simpa using this
          ·intro j hj
           exact q5 j (by omega)
         obtain ⟨v1, v2⟩ := hok_adopt b2 hB i1 i2' q2 (fun o blk base k h => hH.lt h) q3 hoc
         refine hp _ w' S' _ ((freeze_ext hH os).trans b1) e2 v1 v2 (.r _ _ _ _ _ _ rfl ?_) (by rw [put_length, frz_length]; exact Nat.le_refl _) (kp_upd _ _ _ _)
         unfold RelRf
         rw [upd_same]
         refine ⟨rfl, cap, _, rfl, fun _ => by simp, q1, (fun h => by cases h), et, cells.size, ?_, by simpa using q4⟩
         unfold World.shape?
         rw [q3]
       ·cases h
      ·cases h
     ·
      rw [hm] at h
      simp only [evalOp] at h
      have hcall := hO.ref _ _ _ _ _ h B w S β _ hB hS hG hH hlen r2
      rw [hμ] at hcall
      refine wp_enter hnd hrun hcall ?_
      rintro e w' ⟨u, S', β', rfl, e1, e2, e3, e4, e5, e6, e7⟩
      exact ⟨u, rfl, hp u w' S' β' e1 e2 e3 e4 e5 e6 (fun o ho _ => e7 o ho (by omega))⟩
  ·
   rename_i t hcal
   obtain ⟨as0, has, hd⟩ := Option.bind_eq_some_iff.1 hd
   cases hd
   obtain ⟨r1, r2⟩ := rands_sound hN hG hf has
   simp only [evalOp] at h
   split at h
   ·rename_i n caps hx
    have hfx := hf t
    have hx' : fr.get t = .f n caps := hx
    rw [hx'] at hfx
    obtain ⟨us, h1, h2, h3⟩ := func_rel hfx
    split at h
    ·
     rename_i ds hpl
     split at hpl
     ·rename_i hce
      have hc0 : caps = [] := by simpa using hce
      subst hc0
      have hu0 : us = [] := by cases us with | nil => rfl | cons _ _ => simp at h2
      subst hu0
      have hmap := plains_map hpl
      split at h
      ·rename_i r own hval
       simp only [Option.some.injEq, Prod.mk.injEq] at h
       obtain ⟨rfl, hH'⟩ := h
       obtain ⟨fn, q1, q2, q3⟩ := hO.fnv _ _ _ hval
       have hrun := run_call_value (P := P) (w := w) (a := a) hop hcal (caps := #[]) (f := C.μ n) h1 q1 q2 q3
       have hargs : c.args.map a.eval ++ #[] = (c.args.toList.map a.eval).toArray := by apply Array.ext'; simp
       rw [hargs] at hrun
       have l1 : ds.length = (c.args.toList.map a.eval).length := by
        have := congrArg List.length hmap
        simp only [List.length_map] at this ⊢
        simp only [r1] at this
        simpa using this.symm
       refine by_val (os := []) hO hG hS hB hH hnd hrun hval l1 ?_ (by simpa using hH') hp
       intro j hj hj'
       have h5 : RelV C w S β (.d ds[j]) (c.args.toList.map a.eval)[j] := by
        have := r2 j (by rw [hmap]; simpa using hj) hj'
        simpa only [hmap, List.getElem_map] using this
       have h6 : RelD w S ds[j] (c.args.toList.map a.eval)[j] := by
        generalize (c.args.toList.map a.eval)[j] = z at h5
        cases h5 with
        | d _ _ h5 => exact h5
       exact h6.more (fun _ _ h => Or.inl h)
      ·cases h
     ·cases hpl
    obtain ⟨fn, q1, q2, q3⟩ := hO.fn _ _ _ _ h
    have hrun := run_call_value (P := P) (w := w) (a := a) hop hcal (caps := us.toArray) (f := C.μ n) h1 q1 q2 q3
    have hargs : c.args.map a.eval ++ us.toArray = (c.args.toList.map a.eval ++ us).toArray := by apply Array.ext'; simp
    rw [hargs] at hrun
    have hlen : (as0.map (rd E fr) ++ caps).length = (c.args.toList.map a.eval ++ us).length := by simp [r1, h2]
    have hrel : ∀ j (h : j < (as0.map (rd E fr) ++ caps).length) (h' : j < (c.args.toList.map a.eval ++ us).length), RelV C w S β (as0.map (rd E fr) ++ caps)[j] (c.args.toList.map a.eval ++ us)[j] := by
     intro j hj hj'
     by_cases hja : j < (as0.map (rd E fr)).length
     ·rw [List.getElem_append_left hja, List.getElem_append_left (by simpa [r1] using hja)]
      exact r2 j _ _
     ·rw [List.getElem_append_right (by omega), List.getElem_append_right (by simp only [List.length_map] at hja ⊢; omega)]
      have e1 : (as0.map (rd E fr)).length = (c.args.toList.map a.eval).length := by simp [r1]
      simp only [e1]
      exact h3 _ _ _
    have hcall := hO.ref _ _ _ _ _ h B w S β _ hB hS hG hH hlen hrel
    refine wp_enter hnd hrun hcall ?_
    rintro e w' ⟨u, S', β', rfl, e1, e2, e3, e4, e5, e6, e7⟩
    exact ⟨u, rfl, hp u w' S' β' e1 e2 e3 e4 e5 e6 (fun o ho _ => e7 o ho (by omega))⟩
   ·rename_i n firsts hx
    have hfx := hf t
    have hx' : fr.get t = .m n firsts := hx
    rw [hx'] at hfx
    obtain ⟨us, h1, h2, h3⟩ := meth_rel hfx
    have hall : ∀ j (h : j < (firsts ++ as0.map (rd E fr)).length) (h' : j < (us ++ c.args.toList.map a.eval).length), RelV C w S β (firsts ++ as0.map (rd E fr))[j] (us ++ c.args.toList.map a.eval)[j] := by
     intro j hj hj'
     by_cases hja : j < firsts.length
     ·rw [List.getElem_append_left hja, List.getElem_append_left (by omega)]
      exact h3 j _ _
     ·rw [List.getElem_append_right (by omega), List.getElem_append_right (by omega)]
      simp only [h2]
      exact r2 _ _ _
    have hlen : (firsts ++ as0.map (rd E fr)).length = (us ++ c.args.toList.map a.eval).length := by simp [r1, h2]
    have hargs : us.toArray ++ (c.args.map a.eval ++ #[]) = (us ++ c.args.toList.map a.eval).toArray := by apply Array.ext'; simp
    split at h
    ·rename_i ds hpl
     have hmap := plains_map hpl
     split at h
     ·rename_i r own hval
      simp only [Option.some.injEq, Prod.mk.injEq] at h
      obtain ⟨rfl, hH'⟩ := h
      obtain ⟨fn, q1, q2, q3⟩ := hO.fnv _ _ _ hval
      have hrun := run_call_meth (P := P) (w := w) (a := a) hop hcal (firsts := us.toArray) (f := C.μ n) h1 q1 q2 q3
      rw [hargs] at hrun
      refine by_val (os := []) hO hG hS hB hH hnd hrun hval ?_ ?_ (by simpa using hH') hp
      ·have := congrArg List.length hmap
       rw [List.length_map] at this
       rw [← this, hlen]
      ·intro j hj hj'
       have h5 : RelV C w S β (.d ds[j]) (us ++ c.args.toList.map a.eval)[j] := by
        have := hall j (by rw [hmap]; simpa using hj) hj'
        simpa only [hmap, List.getElem_map] using this
       have h6 : RelD w S ds[j] (us ++ c.args.toList.map a.eval)[j] := by
        generalize (us ++ c.args.toList.map a.eval)[j] = z at h5
        cases h5 with
        | d _ _ h5 => exact h5
       exact h6.more (fun _ _ h => Or.inl h)
     ·cases h
    ·obtain ⟨fn, q1, q2, q3⟩ := hO.fn _ _ _ _ h
     have hrun := run_call_meth (P := P) (w := w) (a := a) hop hcal (firsts := us.toArray) (f := C.μ n) h1 q1 q2 q3
     rw [hargs] at hrun
     have hcall := hO.ref _ _ _ _ _ h B w S β _ hB hS hG hH hlen hall
     refine wp_enter hnd hrun hcall ?_
     rintro e w' ⟨u, S', β', rfl, e1, e2, e3, e4, e5, e6, e7⟩
     exact ⟨u, rfl, hp u w' S' β' e1 e2 e3 e4 e5 e6 (fun o ho _ => e7 o ho (by omega))⟩
   ·rename_i o' hx
    have hfx := hf t
    have hx' : fr.get t = .h o' := hx
    rw [hx'] at hfx
    obtain ⟨y1, y2⟩ := hY _ _ _ _ _ h
    obtain ⟨blk, x, q1, q2, q3⟩ := sp_map hH hfx y1
    have q4 : ∃ r, x = .loop r ∧ a.tmps.getD t undef = .func (.yield blk) #[] #[] := by
     rcases q3 with ⟨rfl, -⟩ | ⟨rfl, -⟩ | h
     ·exact q2.elim
     ·exact q2.elim
     ·exact h
    obtain ⟨r0, rfl, hu⟩ := q4
    have hlen : (as0.map (rd E fr)).length = (c.args.toList.map a.eval).length := by simp [r1]
    obtain ⟨rr, z1, z2, z3⟩ := y2 w S β (c.args.toList.map a.eval) blk r0 (Ext.refl _ _ _) (Lb.refl _ _) hyb hB hS hG hH q1 hlen r2 (FR ro) (nf - 1) (fun _ => trivial) rfl rfl
    have hargs : c.args.map a.eval = (c.args.toList.map a.eval).toArray := by apply Array.ext'; simp
    have hrun : (execOp a.eval o).run P w = .ok (.round blk rr.fn ((rr.params.zip (c.args.toList.map a.eval).toArray).foldl (fun tmps (t, a) => tmps.setIfInBounds t a) rr.tmps) rr.assign rr.body) w := by
     have hgl : (Instr.getLoop blk).run P w = .ok rr w := by simp [Instr.getLoop, run_getObj_loop z1]
     have hev : a.eval (.tmp t) = .func (.yield blk) #[] #[] := hu
     have hsz : (c.args.toList.map a.eval).toArray.size = rr.params.size := by simpa using z2
     simp only [execOp, hop, resolve, hcal, hev, Deferred.ofValue, Sem.run_bind, Sem.run_pure, Result.andThen_ok, invoke, Array.empty_append, Instr.yield, hgl, hargs, hsz, ne_eq, not_true_eq_false, if_false]
    refine ⟨fun _ _ => trivial, ?_⟩
    rw [Oper.semAt_eq _ _ _ hnd, hrun]
    refine ⟨(fun h => by simp [FR, Fence.wide] at h), z3.mono ?_⟩
    rintro e w' ⟨u, S', β', rfl, e1, e2, e3, e4, e5, e6, e7⟩
    exact hp u w' S' β' e1 e2 e3 e4 e5 e6 (fun o ho _ => e7 o ho (by omega))
   ·cases h
  ·cases hd
  ·
   rename_i b hcal
   obtain ⟨as0, has, hd⟩ := Option.bind_eq_some_iff.1 hd
   obtain ⟨r1, r2⟩ := rands_sound hN hG hf has
   have hargs : c.args.map a.eval = (c.args.toList.map a.eval).toArray := by apply Array.ext'; simp
   split at hd
   ·
    split at hd
    ·rename_i x
     obtain ⟨t, ht, hd⟩ := Option.bind_eq_some_iff.1 hd
     have h1 : ∃ y, c.args.toList = [y] := by
      cases hc : c.args.toList with
      | nil => rw [hc] at r1; simp at r1
      | cons y l => cases l with
       | nil => exact ⟨y, rfl⟩
       | cons z l => rw [hc] at r1; simp at r1
     obtain ⟨y, hy⟩ := h1
     have hxy : RelV C w S β (rd E fr x) (a.eval y) := by
      have := r2 0 (by simp) (by simp [hy])
      simpa [hy] using this
     have len : ∀ str, (str = true ∧ P.underlying t = some .string) ∨ (str = false ∧ ∃ e, P.underlying t = some (.slice e)) → evalOp E (rd E fr) H id (.len str x) = some (v, H') → o.wpIn (FR ro) nf P a w next Q := by
      intro str hst h
      simp only [evalOp] at h
      split at h
      ·rename_i n hn
       simp only [Option.some.injEq, Prod.mk.injEq] at h
       obtain ⟨rfl, rfl⟩ := h
       refine wp_value hnd ?_ (hp.same hH hS (.d _ _ (.i _ _)))
       simp only [execOp, hop, resolve, hcal, Sem.run_bind, Sem.run_pure, Result.andThen_ok, invoke, builtin, hargs, hy]
       have := lenA_sound (P := P) hH hxy hn ht hst o.type
       simp only [List.map_cons, List.map_nil, this, Result.andThen_ok]
      ·cases h
     split at hd
     ·cases hd; exact len _ (.inl ⟨rfl, by assumption⟩) h
     ·cases hd; exact len _ (.inr ⟨rfl, _, by assumption⟩) h
     ·cases hd
    ·cases hd
   ·
    split at hd
    ·rename_i x y
     obtain ⟨t, ht, hd⟩ := Option.bind_eq_some_iff.1 hd
     obtain ⟨t2, ht2, hd⟩ := Option.bind_eq_some_iff.1 hd
     obtain ⟨ek, hek, hd⟩ := Option.bind_eq_some_iff.1 hd
     obtain ⟨z, hz, hd⟩ := Option.bind_eq_some_iff.1 hd
     obtain ⟨hu, hk⟩ := elemK_spec hek
     have h1 : ∃ p q, c.args.toList = [p, q] := by
      cases hc : c.args.toList with
      | nil => rw [hc] at r1; simp at r1
      | cons p l => cases l with
       | nil => rw [hc] at r1; simp at r1
       | cons q l => cases l with
        | nil => exact ⟨p, q, rfl⟩
        | cons _ _ => rw [hc] at r1; simp at r1
     obtain ⟨p, q, hpq⟩ := h1
     have hxp : RelV C w S β (rd E fr x) (a.eval p) := by
      have := r2 0 (by simp) (by simp [hpq])
      simpa [hpq] using this
     have hyq : RelV C w S β (rd E fr y) (a.eval q) := by
      have := r2 1 (by simp) (by simp [hpq])
      simpa [hpq] using this
     have app : ((∃ e', P.underlying t2 = some (.slice e')) ∨ P.underlying t2 = some .string) → (if P.bytesOf ek.1 = 0 then none else some (.app ek.2 (P.bytesOf ek.1) x y)) = some io → o.wpIn (FR ro) nf P a w next Q := by
      intro hu2 hd
      split at hd
      ·cases hd
      ·rename_i hb0
       cases hd
       obtain ⟨i1, i2⟩ := hid rfl
       simp only [evalOp] at h
       obtain ⟨ur, w', e1, e2⟩ := appA_sound (P := P) hH hS hB i1 i2 ht ht2 hu hk hu2 hz hb0 o.type hxp hyq h
       refine wp_value hnd ?_ (hp.of_leaves e2)
       simp only [execOp, hop, resolve, hcal, Sem.run_bind, Sem.run_pure, Result.andThen_ok, invoke, builtin, hargs, hpq, List.map_cons, List.map_nil, e1]
     split at hd
     ·exact app (.inl ⟨_, by assumption⟩) hd
     ·exact app (.inr (by assumption)) hd
     ·cases hd
    ·cases hd
   ·
    split at hd
    ·rename_i x
     obtain ⟨t, ht, hd⟩ := Option.bind_eq_some_iff.1 hd
     obtain ⟨ek, hek, hd⟩ := Option.bind_eq_some_iff.1 hd
     obtain ⟨z, hz, hd⟩ := Option.bind_eq_some_iff.1 hd
     obtain ⟨hu, hk⟩ := elemK_spec hek
     cases hd
     have h1 : ∃ y, c.args.toList = [y] := by
      cases hc : c.args.toList with
      | nil => rw [hc] at r1; simp at r1
      | cons y l => cases l with
       | nil => exact ⟨y, rfl⟩
       | cons z l => rw [hc] at r1; simp at r1
     obtain ⟨y, hy⟩ := h1
     have hxy : RelV C w S β (rd E fr x) (a.eval y) := by
      have := r2 0 (by simp) (by simp [hy])
      simpa [hy] using this
     have none0 : RelV C w S β (.t []) (.tuple #[]) := .t [] [] rfl (fun j h => absurd h (Nat.not_lt_zero _))
     simp only [evalOp] at h
     split at h
     ·rename_i oo k' off len tt hx
      rw [hx] at hxy
      split at h
      case h_2 => cases h
      rename_i k'' ro es ho
      split at h
      case isFalse => cases h
      rename_i hcnd
      simp only [Bool.and_eq_true, decide_eq_true_eq] at hcnd
      obtain ⟨⟨⟨hk1, hk2⟩, hle⟩, hro⟩ := hcnd
      have := K.eq_spec hk1
      subst this
      have := K.eq_spec hk2
      subst this
      simp only [Option.some.injEq, Prod.mk.injEq] at h
      obtain ⟨rfl, rfl⟩ := h
      obtain ⟨w', e1, e2, e3, e4⟩ := clr_sound (P := P) hH hS ht hu hk hz hxy ho hle hro o.type
      refine wp_value hnd ?_ (hp _ _ S β e2 e3 e4 (Later.refl _) (.t [] [] rfl (fun j h => absurd h (Nat.not_lt_zero _))) (by rw [put_length]; exact Nat.le_refl _) (Kp.refl _ _ _))
      simp only [execOp, hop, resolve, hcal, Sem.run_bind, Sem.run_pure, Result.andThen_ok, invoke, builtin, hargs, hy, List.map_cons, List.map_nil, e1]
     ·rename_i k0 t0 hx
      rw [hx] at hxy
      simp only [Option.some.injEq, Prod.mk.injEq] at h
      obtain ⟨rfl, rfl⟩ := h
      obtain ⟨ad, cap, hay⟩ : ∃ ad cap, a.eval y = .slice ad 0 cap := by
       generalize a.eval y = v at hxy
       cases hxy with
       | d _ _ hq =>
       cases hq with
       | l _ _ _ ad cap => exact ⟨ad, cap, rfl⟩
      refine wp_value hnd (u := .tuple #[]) (w' := w) ?_ (hp.same hH hS none0)
      have e1 : (Builtin.clear_ c.argTypes o.type #[.slice ad 0 cap]).run P w = .ok (.tuple #[]) w := by
       cases ad <;> simp [Builtin.clear_, ht, run_und hu]
      simp only [execOp, hop, resolve, hcal, Sem.run_bind, Sem.run_pure, Result.andThen_ok, invoke, builtin, hargs, hy, List.map_cons, List.map_nil, hay, e1]
     ·cases h
    ·cases hd
   ·
    split at hd
    ·rename_i x y
     obtain ⟨t, ht, hd⟩ := Option.bind_eq_some_iff.1 hd
     obtain ⟨t2, ht2, hd⟩ := Option.bind_eq_some_iff.1 hd
     obtain ⟨ek, hek, hd⟩ := Option.bind_eq_some_iff.1 hd
     obtain ⟨hu, hk⟩ := elemK_spec hek
     split at hd
     case h_2 => cases hd
     split at hd
     case isFalse => cases hd
     cases hd
     have h1 : ∃ p q, c.args.toList = [p, q] := by
      cases hc : c.args.toList with
      | nil => rw [hc] at r1; simp at r1
      | cons p l => cases l with
       | nil => rw [hc] at r1; simp at r1
       | cons q l => cases l with
        | nil => exact ⟨p, q, rfl⟩
        | cons _ _ => rw [hc] at r1; simp at r1
     obtain ⟨p, q, hpq⟩ := h1
     have hxp : RelV C w S β (rd E fr x) (a.eval p) := by
      have := r2 0 (by simp) (by simp [hpq])
      simpa [hpq] using this
     have hyq : RelV C w S β (rd E fr y) (a.eval q) := by
      have := r2 1 (by simp) (by simp [hpq])
      simpa [hpq] using this
     simp only [evalOp] at h
     split at h
     case h_2 => cases h
     rename_i oo k' off len tt hx
     rw [hx] at hxp
     split at h
     case h_2 => cases h
     rename_i k'' ro es ys ho hys
     split at h
     case isFalse => cases h
     rename_i hcnd
     simp only [Bool.and_eq_true, decide_eq_true_eq] at hcnd
     obtain ⟨⟨⟨hk1, hk2⟩, hle⟩, hro⟩ := hcnd
     have := K.eq_spec hk1
     subst this
     have := K.eq_spec hk2
     subst this
     simp only [Option.some.injEq, Prod.mk.injEq] at h
     obtain ⟨rfl, rfl⟩ := h
     obtain ⟨w', e1, e2, e3, e4⟩ := copyA_sound (P := P) hH hS ht hu hk hxp ho hle hro hyq hys o.type
     refine wp_value hnd ?_ (hp _ _ S β e2 e3 e4 (Later.refl _) (.d _ _ (.i _ _)) (by rw [put_length]; exact Nat.le_refl _) (Kp.refl _ _ _))
     simp only [execOp, hop, resolve, hcal, Sem.run_bind, Sem.run_pure, Result.andThen_ok, invoke, builtin, hargs, hpq, List.map_cons, List.map_nil, e1]
    ·cases hd
   ·
    split at hd
    ·cases hd
    ·cases hd
     simp only [evalOp] at h
     exact op_minmax hnd hop hcal (.inl ⟨rfl, rfl⟩) hargs (by simp [r1]) r2 hH hS h hp
   ·
    split at hd
    ·cases hd
    ·cases hd
     simp only [evalOp] at h
     exact op_minmax hnd hop hcal (.inr ⟨rfl, rfl⟩) hargs (by simp [r1]) r2 hH hS h hp
   ·cases hd
  ·
   rename_i recv name hcal
   obtain ⟨rr, hrr, hd⟩ := Option.bind_eq_some_iff.1 hd
   obtain ⟨as0, has, hd⟩ := Option.bind_eq_some_iff.1 hd
   cases hd
   obtain ⟨r1, r2⟩ := rands_sound hN hG hf has
   have hxr := R hrr
   simp only [evalOp] at h
   split at h
   ·rename_i u y hu
    rw [hu] at hxr
    obtain ⟨z, hz, hyz⟩ := ifc_rel hxr
    have hargs : c.args.map a.eval = (c.args.toList.map a.eval).toArray := by apply Array.ext'; simp
    have hgo : ∀ md f, lookT u (invTab P N name) = some (md, f) → (execOp a.eval o).run P w = .ok (.enter (C.μ f) (z :: c.args.toList.map a.eval).toArray) w ∧ ∃ fn, P.funcs[C.μ f]? = some fn := by
     intro md f hl
     obtain ⟨i, m, fid, d, fn, g1, g2, g3, g4, g5, g6, g7, g8, g9, g10⟩ := invTab_spec hl
     have hμ := hN.f fid (f, md) g10
     simp only at hμ
     have := run_invoke_iface (P := P) (w := w) (y := z) (args := c.args.map a.eval) g1 g2 g3 g4 g5 g6 g7 g8 g9
     refine ⟨?_, fn, by rw [hμ]; exact g7⟩
     have e1 : (#[z] ++ c.args.map a.eval : Array Value) = (z :: c.args.toList.map a.eval).toArray := by rw [hargs]; exact arr_cons z _
     have e2 : (#[(Value.iface u z)] ++ c.args.map a.eval)[0]? = some (.iface u z) := by rw [Array.getElem?_append_left (by simp)]; rfl
     have e3 := arr_tail (.iface u z) (c.args.map a.eval)
     rw [e1] at this
     simp only [execOp, hop, resolve, hcal, hz, Sem.run_bind, Sem.run_pure, Result.andThen_ok, invoke, e2, e3, this, hμ]
    split at h
    ·rename_i f hl
     split at h
     ·rename_i ds os hpur
      split at h
      ·rename_i r own hval
       simp only [Option.some.injEq, Prod.mk.injEq] at h
       obtain ⟨rfl, hH'⟩ := h
       obtain ⟨l1, l2⟩ := call_args hH hpur (by simp [r1]) r2
       refine by_val hO hG hS hB hH hnd (hgo _ _ hl).1 hval (by simp [l1]) ?_ hH' hp
       intro j hj hj'
       cases j with
       | zero => exact hyz.more (fun _ _ h => .inl h)
       | succ j => exact l2 j (by simpa using hj) (by simpa using hj')
      ·cases h
     ·cases h
    ·rename_i md f _ hl
     have hcall := hO.ref _ _ _ _ _ h B w S β (z :: c.args.toList.map a.eval) hB hS hG hH (by simp [r1]) (fun j hj hj' => by
      cases j with
      | zero => exact .d _ _ hyz
      | succ j => exact r2 j (by simpa using hj) (by simpa using hj'))
     refine wp_enter hnd (hgo _ _ hl).1 hcall ?_
     rintro e w' ⟨u, S', β', rfl, e1, e2, e3, e4, e5, e6, e7⟩
     exact ⟨u, rfl, hp u w' S' β' e1 e2 e3 e4 e5 e6 (fun o ho _ => e7 o ho (by omega))⟩
    ·cases h
   ·cases h
 | ready g => simp [digOp, hop] at hd
 | waits g => simp [digOp, hop] at hd
 | sliceToArrayPointer d x => simp [digOp, hop] at hd
 | makeInterface t x =>
  simp only [digOp, hop] at hd
  split at hd
  ·cases hd
  ·rename_i hni
   obtain ⟨k, hk, hd⟩ := Option.bind_eq_some_iff.1 hd
   obtain ⟨r, hr, hd⟩ := Option.bind_eq_some_iff.1 hd
   cases hd
   simp only [evalOp] at h
   split at h
   ·rename_i y os hpu
    simp only [Option.some.injEq, Prod.mk.injEq] at h
    obtain ⟨rfl, rfl⟩ := h
    have hu : ∃ d, P.underlying t = some d := by
     cases hq : P.underlying t with
     | none => simp [kq, hq] at hk
     | some d => exact ⟨d, rfl⟩
    obtain ⟨d, hu⟩ := hu
    exact op_mkif hnd hop hu (fun ms hd => hni ms (by rw [hu, hd])) (R hr) hH hS hpu hp
   ·simp only [Option.some.injEq, Prod.mk.injEq] at h
    obtain ⟨rfl, rfl⟩ := h
    have hu : ∃ d, P.underlying t = some d := by
     cases hq : P.underlying t with
     | none => simp [kq, hq] at hk
     | some d => exact ⟨d, rfl⟩
    obtain ⟨d, hu⟩ := hu
    exact op_mkifw hnd hop hu (fun ms hd => hni ms (by rw [hu, hd])) (R hr) hH hS hp
 | makeMap t r =>
  cases r with
  | some r => simp [digOp, hop] at hd
  | none =>
   simp only [digOp, hop] at hd
   obtain ⟨m, hm, hd⟩ := Option.bind_eq_some_iff.1 hd
   cases hd
   simp only [evalOp, Option.some.injEq, Prod.mk.injEq] at h
   obtain ⟨rfl, rfl⟩ := h
   exact op_mkmap hnd hop hH hS hB (hid rfl) hp
 | makeChan t s => simp [digOp, hop] at hd
 | lookup t x i b =>
  simp only [digOp, hop] at hd
  obtain ⟨m, hm, hd⟩ := Option.bind_eq_some_iff.1 hd
  obtain ⟨rx, hrx, hd⟩ := Option.bind_eq_some_iff.1 hd
  obtain ⟨ri, hri, hd⟩ := Option.bind_eq_some_iff.1 hd
  obtain ⟨z, hz, hd⟩ := Option.bind_eq_some_iff.1 hd
  cases hd
  obtain ⟨d, hu, hkt, hky⟩ := mapKE_spec hm
  have h1 := R hrx
  have h2 := R hri
  simp only [evalOp] at h
  split at h
  ·rename_i k oo hk ho
   rw [ho] at h1
   rw [hk] at h2
   split at h
   ·rename_i hok
    split at h
    ·rename_i es hes
     split at h
     ·rename_i r hr
      simp only [Option.some.injEq, Prod.mk.injEq] at h
      obtain ⟨rfl, rfl⟩ := h
      exact op_mget hnd hop hu hkt hz (kyOf_spec hky hok) h1 h2 hes hH hS hr hp
     ·cases h
    ·cases h
   ·cases h
  ·cases h
 | insert t x i y =>
  simp only [digOp, hop] at hd
  exact mset (.inr hop) hd
 | mapUpdate t x i y =>
  simp only [digOp, hop] at hd
  exact mset (.inl hop) hd
 | mapEntry t m k => simp [digOp, hop] at hd
 | entryStore t m s x => simp [digOp, hop] at hd
 | range t x =>
  simp only [digOp, hop] at hd
  split at hd
  ·rename_i hu
   obtain ⟨r, hr, hd⟩ := Option.bind_eq_some_iff.1 hd
   cases hd
   have h1 := R hr
   simp only [evalOp] at h
   split at h
   ·rename_i l hl
    rw [hl] at h1
    simp only [Option.some.injEq, Prod.mk.injEq] at h
    obtain ⟨rfl, rfl⟩ := h
    exact op_rngS hnd hop hu h1 hH hS hB (hid rfl) hp
   ·cases h
  ·cases hd
 | next it b =>
  cases b with
  | false => simp [digOp, hop] at hd
  | true =>
   simp only [digOp, hop] at hd
   obtain ⟨r, hr, hd⟩ := Option.bind_eq_some_iff.1 hd
   cases hd
   have h1 := R hr
   simp only [evalOp] at h
   split at h
   ·rename_i oo ho
    rw [ho] at h1
    split at h
    ·rename_i l pos hes
     exact op_nxt hnd hop h1 hes hH hS h hp
    ·cases h
   ·cases h
 | entry it => simp [digOp, hop] at hd
 | typeAssert x s t ok =>
  simp only [digOp, hop] at hd
  split at hd
  ·cases hd
  ·rename_i d hni hu
   obtain ⟨r, hr, hd⟩ := Option.bind_eq_some_iff.1 hd
   obtain ⟨z, hz, hd⟩ := Option.bind_eq_some_iff.1 hd
   cases hd
   simp only [evalOp] at h
   exact op_tas hnd hop hu (fun ms hd => hni ms hd) hz h (R hr) hH hS hp
  ·cases hd
 | go c => simp [digOp, hop] at hd
 | defer c => exact absurd hop (hnd c)
 | panic x => simp [digOp, hop] at hd
 | send c x => simp [digOp, hop] at hd
 | recv t c b => simp [digOp, hop] at hd
 | select cs b => simp [digOp, hop] at hd
end
end Go.Sim
end
section
open Go.RowKit
namespace Go.Sim
theorem get_set (t : Nat) (v : PV) (t' : Nat) : ∀ fr : Fr, (fr.set t v).get t' = if t' = t then v else fr.get t'
 | [] => by simp only [Fr.set, Fr.get]; split <;> split <;> simp_all
 | (j, x) :: r => by
  simp only [Fr.set]
  split
  ·rename_i h; subst h
   simp only [Fr.get]
   split
   ·rename_i h; subst h; simp
   ·rename_i h; rw [if_neg (fun e => h e.symm)]
  ·split
   ·by_cases h : t = t'
    ·subst h; simp [Fr.get]
    ·rw [if_neg (fun e => h e.symm)]; simp only [Fr.get, h, if_false]
   ·rename_i h1 h2
    simp only [Fr.get]
    split
    ·rename_i h; subst h; rw [if_neg h1]
    ·exact get_set t v t' r
theorem get_drop_eq (l : List Nat) (t : Nat) : ∀ fr : Fr, (fr.drop l).get t = if l.contains t && Nat.blt t gh then .u else fr.get t
 | [] => by simp [Fr.drop, Fr.get]
 | (j, x) :: r => by
  simp only [Fr.drop]
  split
  ·rename_i hc
   rw [get_drop_eq l t r]
   by_cases hj : j = t
   ·subst hj; rw [if_pos hc, if_pos hc]
   ·simp [Fr.get, hj]
  ·rename_i hc
   simp only [Fr.get]
   split
   ·rename_i hj; subst hj; rw [if_neg hc]
   ·exact get_drop_eq l t r
theorem get_drop (l : List Nat) (t : Nat) (fr : Fr) : (fr.drop l).get t = fr.get t ∨ (fr.drop l).get t = .u := by
 rw [get_drop_eq]; split
 ·exact .inr rfl
 ·exact .inl rfl
theorem get_drop_gh (l : List Nat) {t : Nat} (h : gh ≤ t) (fr : Fr) : (fr.drop l).get t = fr.get t := by
 rw [get_drop_eq]
 have : Nat.blt t gh = false := by
  cases hb : Nat.blt t gh with
  | false => rfl
  | true => rw [Nat.blt_eq] at hb; omega
 simp [this]
theorem get_keep_eq (l : List Nat) (t : Nat) : ∀ fr : Fr, (fr.keep l).get t = if l.contains t || Nat.ble gh t then fr.get t else .u
 | [] => by simp [Fr.keep, Fr.get]
 | (j, x) :: r => by
  simp only [Fr.keep]
  split
  ·rename_i hc
   simp only [Fr.get]
   split
   ·rename_i hj; subst hj; rw [if_pos hc]
   ·exact get_keep_eq l t r
  ·rename_i hc
   rw [get_keep_eq l t r]
   by_cases hj : j = t
   ·subst hj; rw [if_neg hc, if_neg hc]
   ·simp [Fr.get, hj]
theorem get_keep (l : List Nat) (t : Nat) (fr : Fr) : (fr.keep l).get t = fr.get t ∨ (fr.keep l).get t = .u := by
 rw [get_keep_eq]; split
 ·exact .inl rfl
 ·exact .inr rfl
theorem get_keep_gh (l : List Nat) {t : Nat} (h : gh ≤ t) (fr : Fr) : (fr.keep l).get t = fr.get t := by
 rw [get_keep_eq]
 have : Nat.ble gh t = true := by rw [Nat.ble_eq]; exact h
 simp [this]
theorem get_ren (ρ : Nat → Option Nat) (t : Nat) : ∀ fr : Fr, (fr.ren ρ).get t = (fr.get t).ren ρ
 | [] => rfl
 | (j, x) :: r => by
  simp only [Fr.ren, Fr.get]
  split
  ·rfl
  ·exact get_ren ρ t r
theorem ofArgs_keys : ∀ (args : List PV) (j : Nat), ∀ p ∈ Fr.ofArgs j args, j ≤ p.1
 | [], j, p, h => by cases h
 | v :: r, j, p, h => by
  simp only [Fr.ofArgs] at h
  rcases List.mem_append.1 h with h | h
  ·have := ofArgs_keys r (j + 1) p h; omega
  ·rw [List.mem_singleton.1 h]; exact Nat.le_refl _
theorem get_app_b {t : Nat} {b : Fr} : ∀ {a : Fr}, (∀ p ∈ a, p.1 ≠ t) → Fr.get (a ++ b) t = Fr.get b t
 | [], _ => rfl
 | (j, x) :: r, h => by
  simp only [List.cons_append, Fr.get]
  rw [if_neg (h (j, x) (List.mem_cons_self ..))]
  exact get_app_b fun p hp => h p (List.mem_cons_of_mem _ hp)
theorem get_app_c {t j : Nat} {v : PV} (h : ¬ j = t) : ∀ {a : Fr}, Fr.get (a ++ [(j, v)]) t = Fr.get a t
 | [] => by simp [Fr.get, h]
 | (i, x) :: r => by
  simp only [List.cons_append, Fr.get]
  rw [get_app_c h]
theorem get_ofArgs (t : Nat) : ∀ (args : List PV) (j : Nat), (Fr.ofArgs j args).get t = if j ≤ t then args.getD (t - j) .u else .u
 | [], j => by simp [Fr.ofArgs, Fr.get]
 | v :: r, j => by
  simp only [Fr.ofArgs]
  by_cases h : j = t
  ·subst h
   rw [get_app_b (fun p hp e => by have := ofArgs_keys r (j + 1) p hp; omega)]
   simp [Fr.get]
  ·rw [get_app_c h, get_ofArgs t r (j + 1)]
   by_cases hj : j ≤ t
   ·rw [if_pos hj, if_pos (by omega)]
    have : t - j = (t - (j + 1)) + 1 := by omega
    rw [this]; rfl
   ·rw [if_neg hj, if_neg (by omega)]
theorem evalOp_id {E : Env} {ρ : Rand → PV} {H : Heap} {x : IOp} (h : x.adds = false) (i j : Nat) : evalOp E ρ H i x = evalOp E ρ H j x := by
 cases x with
 | call m f args =>
  match m with
  | 0 => rfl
  | 1 => simp [IOp.adds] at h
  | m + 2 => rfl
 | alloc => simp [IOp.adds] at h
 | box => simp [IOp.adds] at h
 | bsl => simp [IOp.adds] at h
 | app => simp [IOp.adds] at h
 | mksl => simp [IOp.adds] at h
 | mkmap => simp [IOp.adds] at h
 | rngS => simp [IOp.adds] at h
 | _ => rfl
section
variable {P : Program} {N : Names} {C : Cx} {w : World} {S : Stab} {β : Pl} {B : Nat} {H : Heap} {a : Act} {E : Env} {ro : Option Nat} {nf : Nat}
def DRel (C : Cx) (w : World) (S : Stab) (β : Pl) (x : PV) (d : Deferred) : Prop := match x with
 | .g (.h o) => ∃ r, d = { target := .collected r, args := #[] } ∧ (β o = .sp r .defer ∨ β o = .dead)
 | .g (.f n caps) => ∃ us : List Value, d = { target := .fn (.func (C.μ n)) us.toArray, args := #[] } ∧ caps.length = us.length ∧ ∀ j (h : j < caps.length) (h' : j < us.length), RelV C w S β caps[j] us[j]
 | .g .u => True
 | _ => False
def DfRel (C : Cx) (w : World) (S : Stab) (β : Pl) (fr : Fr) (ds : List Deferred) : Prop :=
 ∃ sl : List Nat, sl.Nodup ∧ (∀ t, t ∈ sl → gh ≤ t) ∧ (∀ t, gh ≤ t → fr.get t ≠ .u → t ∈ sl) ∧ sl.length = ds.length ∧ ∀ j (h : j < sl.length) (h' : j < ds.length), DRel C w S β (fr.get sl[j]) ds[j]
theorem DRel.ext {w' : World} {S' : Stab} {β' : Pl} {x : PV} {d : Deferred} (h : DRel C w S β x d) (e : Ext B w S w' S') (hb : Later β β') : DRel C w' S' β' x d := by
 unfold DRel at *
 split at h
 ·obtain ⟨r, h1, h2⟩ := h
  refine ⟨r, h1, ?_⟩
  rename_i o
  rcases hb o with h3 | h3 | h3
  ·rw [h3]; exact h2
  ·exact .inr h3
  ·rcases h2 with h2 | h2 <;> rw [h3] at h2 <;> cases h2
 ·obtain ⟨us, h1, h2, h3⟩ := h
  exact ⟨us, h1, h2, fun j hj hj' => (h3 j hj hj').ext e hb⟩
 ·trivial
 ·exact h.elim
theorem DfRel.ext {w' : World} {S' : Stab} {β' : Pl} {fr : Fr} {ds : List Deferred} (h : DfRel C w S β fr ds) (e : Ext B w S w' S') (hb : Later β β') : DfRel C w' S' β' fr ds := by
 obtain ⟨sl, h1, h2, h3, h4, h5⟩ := h
 exact ⟨sl, h1, h2, h3, h4, fun j hj hj' => (h5 j hj hj').ext e hb⟩
theorem DfRel.frame {fr fr' : Fr} {ds : List Deferred} (h : DfRel C w S β fr ds) (he : ∀ t, gh ≤ t → fr'.get t = fr.get t) : DfRel C w S β fr' ds := by
 obtain ⟨sl, h1, h2, h3, h4, h5⟩ := h
 refine ⟨sl, h1, h2, fun t ht hn => h3 t ht (by rw [← he t ht]; exact hn), h4, fun j hj hj' => ?_⟩
 rw [he _ (h2 _ (List.getElem_mem hj))]
 exact h5 j hj hj'
theorem DfRel.push {fr : Fr} {ds : List Deferred} (h : DfRel C w S β fr ds) {t : Nat} (ht : gh ≤ t) (hu : fr.get t = .u) {x : PV} {d : Deferred} (hx : DRel C w S β x d) : DfRel C w S β (fr.set t x) (d :: ds) := by
 obtain ⟨sl, h1, h2, h3, h4, h5⟩ := h
 have hnt : ∀ j (hj : j < sl.length), sl[j] ≠ t := fun j hj hq => by
  have := h5 j hj (by omega)
  rw [hq, hu] at this
  exact this
 have hn : t ∉ sl := fun hm => by
  obtain ⟨j, hj, hq⟩ := List.getElem_of_mem hm
  exact hnt j hj hq
 refine ⟨t :: sl, List.nodup_cons.2 ⟨hn, h1⟩, ?_, ?_, by simp [h4], ?_⟩
 ·intro t' hm
  rcases List.mem_cons.1 hm with rfl | hm
  ·exact ht
  ·exact h2 t' hm
 ·intro t' h6 h7
  rw [get_set] at h7
  split at h7
  ·rename_i hq; subst hq; exact List.mem_cons_self ..
  ·exact List.mem_cons_of_mem _ (h3 t' h6 h7)
 ·intro j hj hj'
  cases j with
  | zero => rw [get_set]; simpa using hx
  | succ j =>
   simp only [List.getElem_cons_succ]
   rw [get_set, if_neg (hnt j (by simpa using hj))]
   exact h5 j _ _
structure Inv (P : Program) (N : Names) (C : Cx) (E : Env) (B base nt : Nat) (s : St) (a : Act) (w : World) (S : Stab) (β : Pl) : Prop where
 swf : Swf w S
 gok : GOK N E.G w S
 hB : B ≤ w.heap.size
 hok : HOK C B w S β s.H
 fok : FOK C w S β s.fr a
 size : a.tmps.size = nt
 defers : DfRel C w S β s.fr a.defers
 yok : ∃ yb, yb ≤ base ∧ YOK P C N E.G E.yld B w S β yb
 base : base ≤ s.H.length
theorem FOK.ext {w' : World} {S' : Stab} {β' : Pl} {fr : Fr} (h : FOK C w S β fr a) (e : Ext B w S w' S') (hb : Later β β') : FOK C w' S' β' fr a := fun t => (h t).ext e hb
theorem FOK.put {fr : Fr} (h : FOK C w S β fr a) {d : Nat} (hd : d < a.tmps.size) {v : PV} {u : Value} (hv : RelV C w S β v u) : FOK C w S β (fr.set d v) (a.put (some d) u) := by
 intro t
 rw [get_set]
 simp only [Act.put, Array.getD_eq_getD_getElem?]
 split
 ·rename_i ht; subst ht
  simpa [hd] using hv
 ·rename_i ht
  rw [Array.getElem?_setIfInBounds_ne (fun e => ht e.symm)]
  have := h t
  simpa [Array.getD_eq_getD_getElem?] using this
theorem hok_grow (hH : HOK C B w S β H) (n : Nat) : HOK C B w S β (H ++ List.replicate n none) := by
 have hobj : ∀ o, o < H.length → Heap.obj (H ++ List.replicate n none) o = H.obj o := by
  intro o ho
  simp [Heap.obj, List.getElem?_append_left ho]
 have hlt : ∀ o, β o ≠ .pend → o < H.length := fun o h => by
  rcases Nat.lt_or_ge o H.length with h1 | h1
  ·exact h1
  ·exact absurd (hH.out o h1) h
 refine ⟨?_, ?_, ?_, hH.inj, ?_, fun o blk x h => ?_, hH.spi⟩
 rotate_left 4
 ·rw [hobj o (hlt o (by rw [h]; simp))]; exact hH.sp o blk x h
 ·intro o blk base k h
  rw [hobj o (hlt o (by rw [h]; simp))]; exact hH.live o blk base k h
 ·intro o h
  rw [hobj o (hlt o (by rw [h]; simp))]; exact hH.dead o h
 ·intro o h
  rw [hobj o (hlt o (by rw [h]; simp))]; exact hH.virt o h
 ·intro o h
  rw [List.length_append] at h
  exact hH.out o (by omega)
theorem digO_dst (o : Oper) (all : Array Oper) (h : isDefer o.op = false) : (digO P N all o).dst = o.dst := by
 unfold digO; split
 ·simp [h]
 ·rfl
theorem ops_sound (hO : OrOK P C N E) (hN : NOK P N C E.G) {ops : Array Oper} {Q : Exit → Act → World → Prop} {base nt : Nat} (hng : nt ≤ gh) (hro : ro = none ∨ ∀ o ∈ ops.toList, isDefer o.op = false) (hdst : ∀ o ∈ ops.toList, ∀ d, o.dst = some d → d < nt) : ∀ (m k id R : Nat) (s s' : St) (a : Act) (w : World) (S : Stab) (β : Pl), k + m = ops.size →
  evalOps E ((ops.toList.drop k).map (digO P N ops)) id s = some s' → Inv P N C E B base nt s a w S β → (∀ j, id ≤ j → j < R → β j = .pend) → id + nadds ((ops.toList.drop k).map (digO P N ops)) ≤ R → R ≤ s.H.length → base ≤ id →
  (∀ a' w' S' β', Inv P N C E B base nt s' a' w' S' β' → Ext B w S w' S' → Lb base β β' → Q .normal a' w') → wpOpsIn (FR ro) nf P ops Q (List.range' k m) a w := by
 intro m
 induction m with
 | zero =>
  intro k id R s s' a w S β hk he hI _ _ _ _ hQ
  have : ops.toList.drop k = [] := by rw [List.drop_eq_nil_iff]; simp; omega
  rw [this] at he
  simp only [List.map_nil, evalOps, Option.some.injEq] at he
  subst he
  exact hQ a w S β hI (Ext.refl _ _ _) (Lb.refl _ _)
 | succ m ih =>
  intro k id R s s' a w S β hk he hI hpend hroom hR hbase hQ
  have hks : k < ops.size := by omega
  have hdrop : ops.toList.drop k = ops[k] :: ops.toList.drop (k + 1) := by
   rw [List.drop_eq_getElem_cons (by simpa using hks)]; simp
  rw [hdrop] at he hroom
  simp only [List.map_cons] at he hroom
  have hget : ops[k]? = some ops[k] := by simp [hks]
  rw [List.range'_succ]
  simp only [wpOpsIn, hget]
  have hmem : ops[k] ∈ ops.toList := by simp
  generalize hok : ops[k] = o at *
  have hdo := hdst o hmem
  obtain ⟨yb, hyb, hyok⟩ := hI.yok
  cases hdf : isDefer o.op with
  | true =>
   have hro' : ro = none := by
    rcases hro with h | h
    ·exact h
    ·have := h o hmem; rw [hdf] at this; cases this
   subst hro'
   cases hop : o.op <;> (rw [hop] at hdf; try (cases hdf; done))
   rename_i c
   cases hx : digOp P N o with
   | none =>
    have : digO P N ops o = ⟨o.dst, .bad, none⟩ := by unfold digO; rw [hx]
    rw [this] at he
    simp [evalOps, evalOp] at he
   | some x =>
    cases hg : digG ops o.guard with
    | none =>
     have : digO P N ops o = ⟨o.dst, .bad, none⟩ := by unfold digO; rw [hx, hg]
     rw [this] at he
     simp [evalOps, evalOp] at he
    | some g =>
     cases hgn : g with
     | some gg =>
      have : digO P N ops o = ⟨o.dst, .bad, none⟩ := by unfold digO; rw [hx, hg]; simp [hop, isDefer, hgn]
      rw [this] at he
      simp [evalOps, evalOp] at he
     | none =>
      cases hod : o.dst with
      | some d =>
       have : digO P N ops o = ⟨o.dst, .bad, none⟩ := by unfold digO; rw [hx, hg]; simp [hop, isDefer, hgn, hod]
       rw [this] at he
       simp [evalOps, evalOp] at he
      | none =>
      have hdg : digO P N ops o = ⟨some gh, x, none⟩ := by unfold digO; rw [hx, hg]; simp [hop, isDefer, hgn, hod]
      rw [hdg] at he hroom
      have hguard : o.guard = none := by
       subst hgn
       cases hq : o.guard with
       | none => rfl
       | some gw =>
        obtain ⟨j, want⟩ := gw
        rw [hq] at hg
        simp only [digG] at hg
        obtain ⟨t, -, hg⟩ := Option.bind_eq_some_iff.1 hg
        cases hg
      have hw : Region.wanted o (yielded ops a.tmps) = true := by simp [Region.wanted, hguard]
      rw [if_pos hw]
      simp only [digOp, hop] at hx
      split at hx
      ·rename_i t hcal
       split at hx
       ·rename_i hargs
        cases hx
        simp only [evalOps, evalOp] at he
        split at he
        ·rename_i v H' hev
         split at hev
         ·rename_i n caps h1 h2
          simp only [Option.some.injEq, Prod.mk.injEq] at hev
          obtain ⟨rfl, rfl⟩ := hev
          have h1' : s.fr.get t = .f n caps := h1
          have h2' : s.fr.get gh = .u := h2
          have hfx := hI.fok t
          rw [h1'] at hfx
          obtain ⟨us, q1, q2, q3⟩ := func_rel hfx
          have ha0 : c.args = #[] := by simpa using hargs
          refine ⟨fun _ _ => trivial, ?_⟩
          have hrun : (o.semAt (FR none).round a.eval).run P w = .ok (.defer { target := .fn (.func (C.μ n)) us.toArray, args := #[] }) w := by
           have hev : a.eval (.tmp t) = .func (.func (C.μ n)) #[] us.toArray := q1
           unfold Oper.semAt
           rw [hop]
           simp [FR, Fence.wide, execOp, hop, resolve, hcal, hev, Deferred.ofValue, ha0]
          rw [hrun]
          show wpOpsIn _ _ _ _ _ _ ({ a with defers := _ :: a.defers }.put o.dst undef) w
          have hnd : nadds (⟨some gh, .dfr (.t t) (.t gh), none⟩ :: (ops.toList.drop (k + 1)).map (digO P N ops)) = nadds ((ops.toList.drop (k + 1)).map (digO P N ops)) := by simp [nadds, IOp.adds]
          rw [hnd] at hroom
          refine ih (k + 1) id R _ s' _ w S β (by omega) (by simpa [IOp.adds] using he) ?_ hpend hroom (by simpa using hR) hbase hQ
          refine ⟨hI.swf, hI.gok, hI.hB, hI.hok, ?_, ?_, ?_, hI.yok, hI.base⟩
          ·rw [hod]
           intro t'
           show RelV C w S β ((s.fr.set gh (.g (.f n caps))).get t') _
           rw [get_set]
           split
           ·exact .g _ _
           ·exact hI.fok t'
          ·rw [hod]; exact hI.size
          ·rw [hod]
           exact hI.defers.push (Nat.le_refl gh) h2' (x := .g (.f n caps)) (d := { target := .fn (.func (C.μ n)) us.toArray, args := #[] }) ⟨us, rfl, q2, q3⟩
         ·cases hev
        ·cases he
       ·cases hx
      ·cases hx
  | false =>
  have hnd : ∀ c, o.op ≠ .defer c := fun c h => by rw [h] at hdf; cases hdf
  have hdig : (∃ x g, digOp P N o = some x ∧ digG ops o.guard = some g ∧ digO P N ops o = ⟨o.dst, x, g⟩) ∨ digO P N ops o = ⟨o.dst, .bad, none⟩ := by
   unfold digO
   split
   ·exact .inl ⟨_, _, by assumption, by assumption, by simp [hdf]⟩
   ·exact .inr rfl
  rcases hdig with ⟨x, g, hx, hg, hdo'⟩ | hbad
  ·rw [hdo'] at he hroom
   have hput : ∀ (v : PV) (H' : Heap) (u : Value) (w' : World) (S' : Stab) (β' : Pl), Ext B w S w' S' → Swf w' S' → HOK C B w' S' β' H' → Later β β' → RelV C w' S' β' v u → s.H.length ≤ H'.length →
     Lb base β β' → Inv P N C E B base nt ⟨match o.dst with | some t => s.fr.set t v | none => s.fr, H'⟩ (a.put o.dst u) w' S' β' := by
    intro v H' u w' S' β' e1 e2 e3 e4 e5 e6 e7
    refine ⟨e2, hI.gok.ext e1, Nat.le_trans hI.hB e1.below.size, e3, ?_, ?_, ?_, ⟨yb, hyb, hyok.later e1 (e7.mono hyb)⟩, Nat.le_trans hI.base e6⟩
    ·cases hd : o.dst with
     | none => exact hI.fok.ext e1 e4
     | some d => exact (hI.fok.ext e1 e4).put (by rw [hI.size]; exact hdo d hd) e5
    ·cases hd : o.dst with
     | none => exact hI.size
     | some d => simp [Act.put, hI.size]
    ·cases hd : o.dst with
     | none => exact hI.defers.ext e1 e4
     | some d =>
      refine (hI.defers.ext e1 e4).frame fun t ht => ?_
      have hlt := Nat.lt_of_lt_of_le (hdo d hd) (Nat.le_trans hng ht)
      show (s.fr.set d v).get t = _
      rw [get_set, if_neg (fun h => Nat.lt_irrefl _ (h ▸ hlt))]
   have hadds : nadds (⟨o.dst, x, g⟩ :: (ops.toList.drop (k + 1)).map (digO P N ops)) = (if x.adds then 1 else 0) + nadds ((ops.toList.drop (k + 1)).map (digO P N ops)) := rfl
   rw [hadds] at hroom
   have go : (match evalOp E (rd E s.fr) s.H id x with
     | some (v, H) => evalOps E ((ops.toList.drop (k + 1)).map (digO P N ops)) (if x.adds then id + 1 else id) ⟨match o.dst with | some t => s.fr.set t v | none => s.fr, H⟩
     | none => none) = some s' → o.wpIn (FR ro) nf P a w (wpOpsIn (FR ro) nf P ops Q (List.range' (k + 1) m)) Q := by
    intro he
    split at he
    ·rename_i v H' hev
     have hev' : evalOp E (rd E s.fr) s.H (if x.adds then id else s.H.length) x = some (v, H') := by
      cases ha : x.adds with
      | true => exact hev
      | false => rw [← hev]; exact evalOp_id ha _ _
     refine op_sound hO hN hI.gok hI.swf hI.hB hI.hok hI.fok hnd hyok (Nat.le_trans hyb hI.base) hx ?_ hev' ?_
     ·intro hadd
      rw [if_pos hadd] at hroom ⊢
      exact ⟨hpend id (Nat.le_refl _) (by omega), by omega⟩
     ·intro u w' S' β' e1 e2 e3 e4 e5 e6 e7
      have hlb : Lb base β β' := by
       intro o' ho'
       have := hI.base
       exact ⟨e4 o', fun hp => e7 o' (by omega) (by split <;> omega) hp⟩
      refine ih (k + 1) _ R _ s' _ w' S' β' (by omega) he (hput v H' u w' S' β' e1 e2 e3 e4 e5 e6 hlb) ?_ ?_ (by simp only; omega) ?_ ?_
      ·intro j hj hj'
       split at hj
       ·rename_i ha; rw [if_pos ha] at e7
        exact e7 j (by omega) (by omega) (hpend j (by omega) hj')
       ·rename_i ha; rw [if_neg ha] at e7
        exact e7 j (by omega) (by omega) (hpend j (by omega) hj')
      ·split at hroom
       ·rename_i ha; rw [if_pos ha]; omega
       ·rename_i ha; rw [if_neg ha]; omega
      ·split <;> omega
      ·intro a' w'' S'' β'' hI' e8 e9
       exact hQ a' w'' S'' β'' hI' (e1.trans e8) (hlb.trans e9)
    ·cases he
   have no : evalOps E ((ops.toList.drop (k + 1)).map (digO P N ops)) (if x.adds then id + 1 else id) ⟨match o.dst with | some t => s.fr.set t (.t []) | none => s.fr, s.H⟩ = some s' → wpOpsIn (FR ro) nf P ops Q (List.range' (k + 1) m) (a.put o.dst undef) w := by
    intro he
    refine ih (k + 1) _ R _ s' _ w S β (by omega) he (hput (.t []) s.H undef w S β (Ext.refl _ _ _) hI.swf hI.hok (Later.refl _) (.t [] [] rfl (fun j h => absurd h (Nat.not_lt_zero _))) (Nat.le_refl _) (Lb.refl _ _)) ?_ ?_ hR ?_ hQ
    ·intro j hj hj'
     exact hpend j (by split at hj <;> omega) hj'
    ·split at hroom
     ·rename_i ha; rw [if_pos ha]; omega
     ·rename_i ha; rw [if_neg ha]; omega
    ·split <;> omega
   simp only [evalOps] at he
   cases hgo : o.guard with
   | none =>
    rw [hgo] at hg
    simp only [digG, Option.some.injEq] at hg
    subst hg
    have hw : Region.wanted o (yielded ops a.tmps) = true := by simp [Region.wanted, hgo]
    rw [if_pos hw]
    exact go he
   | some gw =>
    obtain ⟨j, want⟩ := gw
    rw [hgo] at hg
    simp only [digG] at hg
    obtain ⟨t, ht, hg⟩ := Option.bind_eq_some_iff.1 hg
    cases hg
    simp only at he
    have hyt := hI.fok t
    have hy : yielded ops a.tmps j = match a.tmps[t]? with | some (.bool b) => some b | _ => none := by
     unfold yielded; rw [ht]; rfl
    split at he
    ·rename_i b hb
     rw [hb] at hyt
     have := bool_rel hyt
     have hyb : yielded ops a.tmps j = some b := by
      rw [hy]
      rw [Array.getD_eq_getD_getElem?] at this
      cases hq : a.tmps[t]? with
      | none => rw [hq] at this; cases this
      | some z => rw [hq] at this; simp at this; subst this; rfl
     have hwd : Region.wanted o (yielded ops a.tmps) = (b == want) := by
      simp only [Region.wanted, hgo, hyb]
      cases b <;> cases want <;> rfl
     rw [hwd]
     split at he
     ·rename_i hbw; rw [if_pos hbw]; exact go he
     ·rename_i hbw; rw [if_neg hbw]; exact ⟨fun _ _ => trivial, no he⟩
    ·rename_i hb
     rw [hb] at hyt
     have hyb : yielded ops a.tmps j = none := by
      rw [hy]
      rw [Array.getD_eq_getD_getElem?] at hyt
      cases hq : a.tmps[t]? with
      | none => rfl
      | some z =>
       rw [hq] at hyt
       simp only [Option.getD_some] at hyt
       cases hyt
       rfl
     have hwd : Region.wanted o (yielded ops a.tmps) = false := by
      simp only [Region.wanted, hgo, hyb]
      rfl
     rw [hwd]
     simp only [Bool.false_eq_true, if_false]
     exact ⟨fun _ _ => trivial, no he⟩
    ·cases he
  ·rw [hbad] at he
   simp [evalOps, evalOp] at he
end
end Go.Sim
end
section
open Go.RowKit
namespace Go.Sim
theorem befE_spec (acc : List Nat) : ∀ (es : List Edge) (i : Nat), (befE acc es).testBit i = true → ∃ e ∈ es, Region.binds .any e = true ∧ (i = e.on ∨ (acc.getD e.on 0).testBit i = true)
 | [], i, h => by simp [befE] at h
 | e :: es, i, h => by
  unfold befE at h
  split at h
  ·rename_i hb
   rw [Nat.testBit_or, Nat.testBit_or, Bool.or_eq_true, Bool.or_eq_true] at h
   rcases h with h | h | h
   ·refine ⟨e, List.mem_cons_self .., hb, .inl ?_⟩
    rw [Nat.testBit_two_pow] at h
    have : e.on = i := by simpa using h
    exact this.symm
   ·exact ⟨e, List.mem_cons_self .., hb, .inr h⟩
   ·obtain ⟨e', h1, h2⟩ := befE_spec acc es i h
    exact ⟨e', List.mem_cons_of_mem _ h1, h2⟩
  ·obtain ⟨e', h1, h2⟩ := befE_spec acc es i h
   exact ⟨e', List.mem_cons_of_mem _ h1, h2⟩
theorem bef_spec : ∀ (ops : List Oper) (acc : List Nat), (bef ops acc).length = acc.length + ops.length ∧ (∀ j, j < acc.length → (bef ops acc)[j]? = acc[j]?) ∧
  ∀ j (h : j < ops.length), ∃ acc' : List Nat, acc'.length = acc.length + j ∧ (∀ i, i < acc'.length → acc'[i]? = (bef ops acc)[i]?) ∧ (bef ops acc)[acc.length + j]? = some (befE acc' (ops[j].after.toList))
 | [], acc => ⟨by simp [bef], fun _ _ => rfl, fun j h => absurd h (Nat.not_lt_zero _)⟩
 | o :: r, acc => by
  obtain ⟨h1, h2, h3⟩ := bef_spec r (acc ++ [befE acc o.after.toList])
  have hl : (acc ++ [befE acc o.after.toList]).length = acc.length + 1 := by simp
  refine ⟨by simp only [bef, h1, hl, List.length_cons]; omega, ?_, ?_⟩
  ·intro j hj
   simp only [bef]
   rw [h2 j (by rw [hl]; omega), List.getElem?_append_left hj]
  ·intro j hj
   cases j with
   | zero =>
    refine ⟨acc, by simp, ?_, ?_⟩
    ·intro i hi
     simp only [bef]
     rw [h2 i (by rw [hl]; omega), List.getElem?_append_left hi]
    ·simp only [bef, Nat.add_zero, List.getElem_cons_zero]
     rw [h2 acc.length (by rw [hl]; omega), List.getElem?_append_right (Nat.le_refl _)]
     simp
   | succ j =>
    obtain ⟨acc', a1, a2, a3⟩ := h3 j (by simpa using hj)
    refine ⟨acc', by rw [a1, hl]; omega, a2, ?_⟩
    rw [hl] at a3
    simp only [bef, List.getElem_cons_succ]
    have e : acc.length + (j + 1) = acc.length + 1 + j := by omega
    rw [e]; exact a3
theorem bef_closed {ops : List Oper} {S : Nat → Prop} (hS : ∀ j (h : j < ops.length), S j → ∀ e ∈ ops[j].after.toList, Region.binds .any e = true → S e.on) :
  ∀ (j : Nat) (h : j < ops.length), (∀ e ∈ ops[j].after.toList, Region.binds .any e = true → S e.on) → ∀ i, ((bef ops []).getD j 0).testBit i = true → S i := by
 intro j
 induction j using Nat.strongRecOn with
 | ind j ih =>
  intro hj hpre i hi
  obtain ⟨acc', a1, a2, a3⟩ := (bef_spec ops []).2.2 j hj
  simp only [List.length_nil, Nat.zero_add] at a1 a3
  rw [List.getD, a3, Option.getD_some] at hi
  obtain ⟨e, e1, e2, e3⟩ := befE_spec _ _ _ hi
  rcases e3 with rfl | e3
  ·exact hpre e e1 e2
  ·have hlt : e.on < acc'.length := by
    rcases Nat.lt_or_ge e.on acc'.length with h | h
    ·exact h
    ·rw [List.getD, List.getElem?_eq_none h] at e3; simp at e3
   have e4 : (bef ops []).getD e.on 0 = acc'.getD e.on 0 := by rw [List.getD, List.getD, a2 _ hlt]
   rw [← e4] at e3
   have hjl : e.on < j := by omega
   exact ih e.on hjl (by omega) (hS e.on (by omega) (hpre e e1 e2)) i e3
section
variable {E : Env} {H H2 : Heap}
theorem rd_congr {fr fr' : Fr} {r : Rand} (h : ∀ t ∈ r.uses, fr.get t = fr'.get t) : rd E fr r = rd E fr' r := by
 cases r with
 | t n => exact h n (by simp [Rand.uses])
 | _ => rfl
theorem rds_congr {fr fr' : Fr} : ∀ {rs : List Rand}, (∀ t ∈ usesL rs, fr.get t = fr'.get t) → rs.map (rd E fr) = rs.map (rd E fr')
 | [], _ => rfl
 | r :: rs, h => by
  simp only [usesL, List.flatMap_cons, List.mem_append] at h
  rw [List.map_cons, List.map_cons, rd_congr (fun t ht => h t (.inl ht)), rds_congr (rs := rs) (fun t ht => h t (.inr ht))]
theorem rdo_congr {fr fr' : Fr} {r : Option Rand} (h : ∀ t ∈ usesO r, fr.get t = fr'.get t) : r.map (rd E fr) = r.map (rd E fr') := by
 cases r with
 | none => rfl
 | some r => simp only [Option.map_some]; rw [rd_congr h]
theorem op_congr {fr fr' : Fr} {id : Nat} {x : IOp} (h : ∀ t ∈ x.uses, fr.get t = fr'.get t) : evalOp E (rd E fr) H id x = evalOp E (rd E fr') H id x ∧ x.okD (rd E fr) = x.okD (rd E fr') ∧ footD (rd E fr) x = footD (rd E fr') x ∧ storeD (rd E fr) x = storeD (rd E fr') x := by
 have h1 : ∀ r : Rand, (∀ t ∈ r.uses, t ∈ x.uses) → rd E fr r = rd E fr' r := fun r hr => rd_congr fun t ht => h t (hr t ht)
 have hL : ∀ rs : List Rand, (∀ t ∈ usesL rs, t ∈ x.uses) → rs.map (rd E fr) = rs.map (rd E fr') := fun rs hr => rds_congr fun t ht => h t (hr t ht)
 have hF : ∀ rs : List Rand, (∀ t ∈ usesL rs, t ∈ x.uses) → (rs.flatMap fun x => (rd E fr x).refs) = rs.flatMap fun x => (rd E fr' x).refs := fun rs hr => by
  have e1 : ∀ (ρ : Rand → PV), (rs.flatMap fun x => (ρ x).refs) = (rs.map ρ).flatMap PV.refs := fun ρ => by rw [List.flatMap_map]
  rw [e1, e1, hL rs hr]
 have hO : ∀ r : Option Rand, (∀ t ∈ usesO r, t ∈ x.uses) → r.map (rd E fr) = r.map (rd E fr') := fun r hr => rdo_congr fun t ht => h t (hr t ht)
 cases x with
 | call m f args =>
  have e1 := hL args (fun t ht => ht)
  have e2 := hF args (fun t ht => ht)
  refine ⟨?_, rfl, e2, rfl⟩
  match m with
  | 0 => simp only [evalOp, e1]
  | 1 => simp only [evalOp, e1]
  | m + 2 => simp only [evalOp, e1]
 | callv x args =>
  have e1 := hL args (fun t ht => by simp [IOp.uses, ht])
  have e2 := h1 x (fun t ht => by simp [IOp.uses, ht])
  exact ⟨by simp only [evalOp, e1, e2], by simp only [IOp.okD, e1, e2], rfl, rfl⟩
 | invk tab x args =>
  have e1 := hL args (fun t ht => by simp [IOp.uses, ht])
  have e2 := h1 x (fun t ht => by simp [IOp.uses, ht])
  exact ⟨by simp only [evalOp, e1, e2], rfl, rfl, rfl⟩
 | bsl k z len parts =>
  have e1 : parts.map (fun x => (x.1, rd E fr x.2)) = parts.map (fun x => (x.1, rd E fr' x.2)) := by
   apply List.map_congr_left
   intro p hp
   rw [h1 p.2 (fun t ht => by simp only [IOp.uses, List.mem_flatMap]; exact ⟨p, hp, ht⟩)]
  have e2 : (parts.flatMap fun x => (rd E fr x.2).refs) = parts.flatMap fun x => (rd E fr' x.2).refs := by
   have e3 : ∀ (ρ : Rand → PV), (parts.flatMap fun x => (ρ x.2).refs) = (parts.map fun x => (x.1, ρ x.2)).flatMap fun y => y.2.refs := fun ρ => by rw [List.flatMap_map]
   rw [e3, e3, e1]
  refine ⟨?_, rfl, e2, rfl⟩
  simp only [evalOp, e1]
 | agg z parts =>
  have : parts.map (fun x => (x.1, x.2.1, rd E fr x.2.2)) = parts.map (fun x => (x.1, x.2.1, rd E fr' x.2.2)) := by
   apply List.map_congr_left
   intro p hp
   rw [h1 p.2.2 (fun t ht => by simp only [IOp.uses, List.mem_flatMap]; exact ⟨p, hp, ht⟩)]
  refine ⟨?_, rfl, rfl, rfl⟩
  simp only [evalOp, this]
 | pick c a b => refine ⟨?_, rfl, rfl, rfl⟩; simp only [evalOp]; rw [h1 c (fun t ht => by simp [IOp.uses, ht]), h1 a (fun t ht => by simp [IOp.uses, ht]), h1 b (fun t ht => by simp [IOp.uses, ht])]
 | mset _ c a b => refine ⟨?_, rfl, rfl, rfl⟩; simp only [evalOp]; rw [h1 c (fun t ht => by simp [IOp.uses, ht]), h1 a (fun t ht => by simp [IOp.uses, ht]), h1 b (fun t ht => by simp [IOp.uses, ht])]
 | mov x | box _ x | load _ x | un _ x | conv _ x | faddr _ x | field _ _ x | len _ x | ext x _ | nilck x | isnil _ _ x | mkif _ x | tas _ _ _ x | clr _ _ x | mlen x | rngS x | nxt x | sb x | bs x => have e := h1 x (fun t ht => ht); exact ⟨by simp only [evalOp, e], rfl, by simp only [footD, e], rfl⟩
 | store _ x y | bin _ x y | eqv _ _ x y | eqb _ x y | iaddr _ x y | iaddrA _ _ x y | idxS x y | idxA _ _ x y | mksl _ _ _ x y | app _ _ x y | copy _ x y | mget _ _ _ x y | mdel _ x y | dfr x y =>
  have e := h1 x (fun t ht => by simp [IOp.uses, ht])
  have e' := h1 y (fun t ht => by simp [IOp.uses, ht])
  exact ⟨by simp only [evalOp, e, e'], rfl, by simp only [footD, e, e'], by simp only [storeD, e]⟩
 | slS x a b => exact ⟨by simp only [evalOp]; rw [h1 x (fun t ht => by simp [IOp.uses, ht]), hO a (fun t ht => by simp [IOp.uses, ht]), hO b (fun t ht => by simp [IOp.uses, ht])], rfl, rfl, rfl⟩
 | sl k x a b c =>
  have e := h1 x (fun t ht => by simp [IOp.uses, ht])
  exact ⟨by simp only [evalOp]; rw [e, hO a (fun t ht => by simp [IOp.uses, ht]), hO b (fun t ht => by simp [IOp.uses, ht]), hO c (fun t ht => by simp [IOp.uses, ht])], rfl, by simp only [footD, e], rfl⟩
 | mkf _ cs | mkm _ cs | prim _ cs | minmax _ cs => have e := hL cs (fun t ht => ht); exact ⟨by simp only [evalOp, e], rfl, rfl, rfl⟩
 | alloc _ _ => exact ⟨rfl, rfl, rfl, rfl⟩
 | mkmap => exact ⟨rfl, rfl, rfl, rfl⟩
 | bad => exact ⟨rfl, rfl, rfl, rfl⟩
theorem opD_congr {fr fr' : Fr} {id : Nat} {x : IOp} (h : ∀ t ∈ x.uses, fr.get t = fr'.get t) : evalOpD E (rd E fr) H id x = evalOpD E (rd E fr') H id x ∧ footD (rd E fr) x = footD (rd E fr') x ∧ storeD (rd E fr) x = storeD (rd E fr') x := by
 obtain ⟨e1, e2, e3, e4⟩ := op_congr (E := E) (H := H) (id := id) h
 exact ⟨by unfold evalOpD; rw [e1, e2], e3, e4⟩
theorem purC_loc {v : PV} (h : ∀ o ∈ v.refs, H2.obj o = H.obj o) : purC H2 v = purC H v := by
 cases v with
 | r o k off len t => simp only [purC]; rw [h o (by simp [PV.refs])]
 | _ => rfl
theorem purC_os {v : PV} {x : DV} {os : List Nat} (h : purC H v = some (x, os)) : ∀ o ∈ os, o ∈ v.refs := by
 unfold purC at h
 split at h
 ·cases h; exact fun o ho => absurd ho (List.not_mem_nil)
 ·split at h
  ·split at h
   ·cases h; exact fun o ho => by simpa [PV.refs] using ho
   ·cases h
  ·cases h
 ·cases h
theorem purL_loc : ∀ {vs : List PV}, (∀ o ∈ PV.refsL vs, H2.obj o = H.obj o) → purL H2 vs = purL H vs
 | [], _ => rfl
 | v :: vs, h => by
  simp only [PV.refsL, List.mem_append] at h
  simp only [purL, purC_loc (fun o ho => h o (.inl ho)), purL_loc (fun o ho => h o (.inr ho))]
theorem purL_os : ∀ {vs : List PV} {xs : List DV} {os : List Nat}, purL H vs = some (xs, os) → ∀ o ∈ os, o ∈ PV.refsL vs
 | [], _, _, h => by cases h; exact fun o ho => absurd ho (List.not_mem_nil)
 | v :: vs, xs, os, h => by
  simp only [purL] at h
  split at h
  ·rename_i h1 h2
   cases h
   intro o ho
   simp only [PV.refsL, List.mem_append] at ho ⊢
   rcases ho with ho | ho
   ·exact .inl (purC_os h1 o ho)
   ·exact .inr (purL_os h2 o ho)
  ·cases h
theorem pur_loc {v : PV} (h : ∀ o ∈ v.refs, H2.obj o = H.obj o) : pur H2 v = pur H v := by
 cases v with
 | a cs => simp only [pur]; rw [purL_loc (fun o ho => h o (by simpa [PV.refs] using ho))]
 | _ => exact purC_loc h
theorem pur_os {v : PV} {x : DV} {os : List Nat} (h : pur H v = some (x, os)) : ∀ o ∈ os, o ∈ v.refs := by
 unfold pur at h
 split at h
 ·split at h
  ·rename_i h1
   cases h
   intro o ho
   simp only [PV.refs]
   exact purL_os h1 o ho
  ·cases h
 ·exact purC_os h
theorem purs_loc : ∀ {vs : List PV}, (∀ o ∈ vs.flatMap PV.refs, H2.obj o = H.obj o) → purs H2 vs = purs H vs
 | [], _ => rfl
 | v :: vs, h => by
  simp only [List.flatMap_cons, List.mem_append] at h
  simp only [purs, pur_loc (fun o ho => h o (.inl ho)), purs_loc (fun o ho => h o (.inr ho))]
theorem purs_os : ∀ {vs : List PV} {xs : List DV} {os : List Nat}, purs H vs = some (xs, os) → ∀ o ∈ os, o ∈ vs.flatMap PV.refs
 | [], _, _, h => by cases h; exact fun o ho => absurd ho (List.not_mem_nil)
 | v :: vs, xs, os, h => by
  simp only [purs] at h
  split at h
  ·rename_i h1 h2
   cases h
   intro o ho
   simp only [List.flatMap_cons, List.mem_append] at ho ⊢
   rcases ho with ho | ho
   ·exact .inl (pur_os h1 o ho)
   ·exact .inr (purs_os h2 o ho)
  ·cases h
theorem bslA_loc {k : K} : ∀ {ps : List (Nat × PV)} {es : List DV}, (∀ o ∈ ps.flatMap (fun y => y.2.refs), H2.obj o = H.obj o) → bslA H2 k es ps = bslA H k es ps
 | [], _, _ => rfl
 | (j, v) :: ps, es, h => by
  simp only [List.flatMap_cons, List.mem_append] at h
  have e1 := pur_loc (H := H) (H2 := H2) (v := v) (fun o ho => h o (.inl ho))
  unfold bslA
  rw [e1]
  have e2 : ∀ es', bslA H2 k es' ps = bslA H k es' ps := fun es' => bslA_loc (fun o ho => h o (.inr ho))
  simp only [e2]
theorem bslA_os {k : K} : ∀ {ps : List (Nat × PV)} {es xs : List DV} {os : List Nat}, bslA H k es ps = some (xs, os) → ∀ o ∈ os, o ∈ ps.flatMap (fun y => y.2.refs)
 | [], _, _, _, h => by
  simp only [bslA, Option.some.injEq, Prod.mk.injEq] at h
  obtain ⟨-, rfl⟩ := h
  exact fun o ho => absurd ho (List.not_mem_nil)
 | (j, v) :: ps, es, xs, os, h => by
  unfold bslA at h
  split at h
  ·split at h
   ·rename_i h1
    split at h
    ·rename_i h2
     cases h
     intro o ho
     simp only [List.flatMap_cons, List.mem_append] at ho ⊢
     rcases ho with ho | ho
     ·exact .inl (pur_os h1 o ho)
     ·exact .inr (bslA_os h2 o ho)
    ·cases h
   ·cases h
  ·cases h
theorem loadA_loc {k : K} {p : PV} (h : ∀ o ∈ p.refs, H2.obj o = H.obj o) : loadA H2 k p = loadA H k p := by
 cases p with
 | p o i c => simp only [loadA]; rw [h o (by simp [PV.refs])]
 | _ => rfl
theorem slA_loc {k : K} {p : PV} {a b c : Option PV} (h : ∀ o ∈ p.refs, H2.obj o = H.obj o) : slA H2 k p a b c = slA H k p a b c := by
 cases p with
 | r o k off len t => simp only [slA]; rw [h o (by simp [PV.refs])]
 | d v => cases v <;> rfl
 | _ => rfl
theorem iaddr_loc {k : K} {p i : PV} (h : ∀ o ∈ p.refs, H2.obj o = H.obj o) : iaddr H2 k p i = iaddr H k p i := by
 cases p with
 | r o k off len t => simp only [iaddr]; rw [h o (by simp [PV.refs])]
 | d v => cases v <;> rfl
 | _ => rfl
theorem lenA_loc {s : Bool} {p : PV} (h : ∀ o ∈ p.refs, H2.obj o = H.obj o) : lenA H2 s p = lenA H s p := by
 cases p with
 | r o k off len t => simp only [lenA]; rw [h o (by simp [PV.refs])]
 | d v => cases v <;> rfl
 | _ => rfl
def Form (ρ : Rand → PV) (x : IOp) (id : Nat) (F : Heap → Heap) : Prop := ∃ os : List Nat, (∀ o ∈ os, o ∈ footD ρ x) ∧ ((x.adds = false ∧ F = fun H => frz H os) ∨ (∃ y, x.adds = true ∧ F = fun H => (frz H os).put id (some y)) ∨ ∃ p y, p ∈ storeD ρ x ∧ F = fun H => (frz H os).put p (some y))
theorem storeA_form {k : K} {p v : PV} {H' : Heap} (h : storeA H k p v = some H') : ∃ o y os, o ∈ p.refs ∧ (∀ o' ∈ os, o' ∈ v.refs) ∧ H' = (frz H os).put o (some y) ∧ ∀ H2, (∀ o' ∈ p.refs ++ v.refs, H2.obj o' = H.obj o') → storeA H2 k p v = some ((frz H2 os).put o (some y)) := by
 cases p with
 | p o i c =>
  have hm : o ∈ (PV.p o i c).refs := by simp [PV.refs]
  unfold storeA at h
  simp only at h
  split at h
  ·rename_i hfit
   split at h
   ·rename_i kb w ho
    split at h
    ·rename_i hi
     split at h
     ·rename_i hck
      cases h
      exact ⟨o, _, [], hm, fun _ h => absurd h (List.not_mem_nil), rfl, fun H2 hT => by simp only [storeA, hfit, if_true, hT o (by simp [PV.refs]), ho, hi, hck]; rfl⟩
     ·rename_i hck
      split at h
      ·rename_i hle
       split at h
       ·rename_i w' hw'
        cases h
        exact ⟨o, _, [], hm, fun _ h => absurd h (List.not_mem_nil), rfl, fun H2 hT => by simp only [storeA, hfit, if_true, hT o (by simp [PV.refs]), ho, hi, hck, hle, hw']; rfl⟩
       ·cases h
      ·cases h
    ·cases h
   ·rename_i kb ro es ho
    split at h
    ·rename_i e he
     split at h
     ·rename_i hro
      split at h
      ·rename_i x os hpur
       have hos := pur_os hpur
       have hp2 : ∀ H2 : Heap, (∀ o' ∈ (PV.p o i c).refs ++ v.refs, H2.obj o' = H.obj o') → pur H2 v = some (x, os) := fun H2 hT => by rw [pur_loc (H := H) (fun o' ho' => hT o' (List.mem_append.2 (.inr ho')))]; exact hpur
       split at h
       ·cases h
       ·rename_i hno
        split at h
        ·rename_i hck
         cases h
         exact ⟨o, _, os, hm, hos, rfl, fun H2 hT => by simp only [storeA, hfit, if_true, hT o (by simp [PV.refs]), ho, he, hro, hp2 H2 hT, hno, hck]; rfl⟩
        ·rename_i hck
         split at h
         ·rename_i hle
          split at h
          ·rename_i e' he'
           cases h
           exact ⟨o, _, os, hm, hos, rfl, fun H2 hT => by simp only [storeA, hfit, if_true, hT o (by simp [PV.refs]), ho, he, hro, hp2 H2 hT, hno, hck, hle, he']; rfl⟩
          ·cases h
         ·cases h
      ·cases h
     ·cases h
    ·cases h
   ·cases h
  ·cases h
 | _ => simp [storeA] at h
theorem opD_form {ρ : Rand → PV} {id : Nat} {x : IOp} {v : PV} {H' : Heap} (hk : x.okD ρ = true) (h : evalOpD E ρ H id x = some (v, H')) : ∃ F, Form ρ x id F ∧ H' = F H ∧ ∀ H2, (∀ o ∈ footD ρ x, H2.obj o = H.obj o) → evalOpD E ρ H2 id x = some (v, F H2) := by
 unfold evalOpD at h ⊢
 simp only [hk, if_true] at h ⊢
 have same : x.adds = false → (H' = H ∧ ∀ H2, (∀ o ∈ footD ρ x, H2.obj o = H.obj o) → evalOp E ρ H2 id x = some (v, H2)) → ∃ F, Form ρ x id F ∧ H' = F H ∧ ∀ H2, (∀ o ∈ footD ρ x, H2.obj o = H.obj o) → evalOp E ρ H2 id x = some (v, F H2) := by
  rintro ha ⟨rfl, h2⟩
  exact ⟨fun H => frz H [], ⟨[], fun _ h => absurd h (List.not_mem_nil), .inl ⟨ha, rfl⟩⟩, rfl, h2⟩
 have key : ∀ (z : Heap → Option PV), (∀ H2, (∀ o ∈ footD ρ x, H2.obj o = H.obj o) → z H2 = z H) → opt (z H) H = some (v, H') → H' = H ∧ ∀ H2, (∀ o ∈ footD ρ x, H2.obj o = H.obj o) → opt (z H2) H2 = some (v, H2) := by
  intro z hz hq
  unfold opt at hq
  split at hq
  ·rename_i he; cases hq; exact ⟨rfl, fun H2 hT => by rw [hz H2 hT, he]; rfl⟩
  ·cases hq
 have keyD : ∀ (z : Option DV), optD z H = some (v, H') → H' = H ∧ ∀ H2 : Heap, (∀ o ∈ footD ρ x, H2.obj o = H.obj o) → optD z H2 = some (v, H2) := by
  intro z hz
  unfold optD at hz ⊢
  split at hz
  ·cases hz; exact ⟨rfl, fun _ _ => rfl⟩
  ·cases hz
 cases x with
 | mov x => simp only [evalOp] at h; cases h; exact same rfl ⟨rfl, fun _ _ => rfl⟩
 | mkf f cs => simp only [evalOp] at h; cases h; exact same rfl ⟨rfl, fun _ _ => rfl⟩
 | mkm f cs => simp only [evalOp] at h; cases h; exact same rfl ⟨rfl, fun _ _ => rfl⟩
 | bin op x y => exact same rfl (keyD _ h)
 | un op x => exact same rfl (keyD _ h)
 | faddr o x => exact same rfl (key (fun _ => _) (fun _ _ => rfl) h)
 | field o k x => exact same rfl (key (fun _ => _) (fun _ _ => rfl) h)
 | prim p as0 => exact same rfl (key (fun _ => _) (fun _ _ => rfl) h)
 | load k x => exact same rfl (key (fun H => loadA H k (ρ x)) (fun H2 hT => loadA_loc hT) h)
 | sl k x a b c => exact same rfl (key (fun H => slA H k (ρ x) (a.map ρ) (b.map ρ) (c.map ρ)) (fun H2 hT => slA_loc hT) h)
 | iaddr k x i => exact same rfl (key (fun H => iaddr H k (ρ x) (ρ i)) (fun H2 hT => iaddr_loc hT) h)
 | len s x =>
  simp only [evalOp] at h ⊢
  split at h
  ·rename_i hq; cases h; exact same rfl ⟨rfl, fun H2 hT => by simp only [evalOp]; rw [lenA_loc hT, hq]⟩
  ·cases h
 | pick c a b =>
  simp only [evalOp] at h
  split at h
  ·rename_i hq; cases h; exact same rfl ⟨rfl, fun H2 _ => by simp only [evalOp, hq]⟩
  ·rename_i hq; cases h; exact same rfl ⟨rfl, fun H2 _ => by simp only [evalOp, hq]⟩
  ·cases h
 | agg z ps =>
  simp only [evalOp] at h
  split at h
  ·rename_i hq; cases h; exact same rfl ⟨rfl, fun H2 _ => by simp only [evalOp, hq]⟩
  ·cases h
 | eqv n m x y =>
  simp only [evalOp] at h
  split at h
  ·rename_i hq; cases h; exact same rfl ⟨rfl, fun H2 _ => by simp only [evalOp, hq]⟩
  ·cases h
 | eqb n x y =>
  simp only [evalOp] at h
  split at h
  ·rename_i hq1 hq2; cases h; exact same rfl ⟨rfl, fun H2 _ => by simp only [evalOp, hq1, hq2]⟩
  ·cases h
 | isnil n kd x =>
  simp only [evalOp] at h
  split at h
  ·rename_i hq; cases h; exact same rfl ⟨rfl, fun H2 _ => by simp only [evalOp, hq]⟩
  ·cases h
 | tas t z ok x =>
  simp only [evalOp] at h
  split at h
  ·rename_i hq
   split at h
   ·rename_i ht; cases h; exact same rfl ⟨rfl, fun H2 _ => by simp only [evalOp, hq, ht, if_true]⟩
   ·rename_i ht
    split at h
    ·rename_i hok; cases h; exact same rfl ⟨rfl, fun H2 _ => by simp only [evalOp, hq, ht, hok, if_true, if_false]⟩
    ·cases h
  ·rename_i hq
   split at h
   ·rename_i ht; cases h; exact same rfl ⟨rfl, fun H2 _ => by simp only [evalOp, hq, ht, if_true]⟩
   ·rename_i ht
    split at h
    ·rename_i hok; cases h; exact same rfl ⟨rfl, fun H2 _ => by simp only [evalOp, hq, ht, hok, if_true, if_false]⟩
    ·cases h
  ·rename_i hq
   split at h
   ·rename_i hok; cases h; exact same rfl ⟨rfl, fun H2 _ => by simp only [evalOp, hq, hok, if_true]⟩
   ·cases h
  ·cases h
 | conv k x =>
  simp only [evalOp] at h
  split at h
  ·rename_i hq; cases h; exact same rfl ⟨rfl, fun H2 _ => by simp only [evalOp, hq]⟩
  ·cases h
 | nilck x =>
  simp only [evalOp] at h
  split at h
  ·rename_i hq; cases h; exact same rfl ⟨rfl, fun H2 _ => by simp only [evalOp, hq]⟩
  ·rename_i hq; cases h; exact same rfl ⟨rfl, fun H2 _ => by simp only [evalOp, hq]⟩
  ·rename_i hq; cases h; exact same rfl ⟨rfl, fun H2 _ => by simp only [evalOp, hq]⟩
  ·cases h
 | ext x i =>
  simp only [evalOp] at h
  split at h
  ·rename_i hq
   obtain ⟨g1, g2⟩ := key (fun _ => _) (fun _ _ => rfl) h
   exact same rfl ⟨g1, fun H2 hT => by simp only [evalOp, hq]; exact g2 H2 hT⟩
  ·cases h
 | slS x a b =>
  simp only [evalOp] at h
  split at h
  ·rename_i hq
   split at h
   ·rename_i hq1
    split at h
    ·rename_i hq2; cases h; exact same rfl ⟨rfl, fun H2 _ => by simp only [evalOp, hq, hq1, hq2]⟩
    ·cases h
   ·cases h
  ·cases h
 | iaddrA n k x y =>
  simp only [evalOp] at h
  split at h
  ·rename_i hq
   split at h
   ·rename_i hq1
    obtain ⟨g1, g2⟩ := key (fun _ => _) (fun _ _ => rfl) h
    exact same rfl ⟨g1, fun H2 hT => by simp only [evalOp, hq, hq1]; exact g2 H2 hT⟩
   ·cases h
  ·cases h
 | idxA n k x y =>
  simp only [evalOp] at h
  split at h
  ·rename_i hq
   split at h
   ·rename_i hq1
    obtain ⟨g1, g2⟩ := key (fun _ => _) (fun _ _ => rfl) h
    exact same rfl ⟨g1, fun H2 hT => by simp only [evalOp, hq, hq1]; exact g2 H2 hT⟩
   ·cases h
  ·cases h
 | idxS x y =>
  simp only [evalOp] at h
  split at h
  ·rename_i hq1 hq2
   split at h
   ·rename_i hq3
    split at h
    ·rename_i hq4; cases h; exact same rfl ⟨rfl, fun H2 _ => by simp only [evalOp, hq1, hq2, hq3, if_true, hq4]⟩
    ·cases h
   ·cases h
  ·cases h
 | minmax b as0 =>
  simp only [evalOp] at h
  split at h
  ·rename_i hq
   obtain ⟨g1, g2⟩ := key (fun _ => _) (fun _ _ => rfl) h
   exact same rfl ⟨g1, fun H2 hT => by simp only [evalOp, hq]; exact g2 H2 hT⟩
  ·cases h
 | alloc k z =>
  simp only [evalOp] at h
  cases h
  exact ⟨fun H => (frz H []).put id _, ⟨[], fun _ h => absurd h (List.not_mem_nil), .inr (.inl ⟨_, rfl, rfl⟩)⟩, rfl, fun _ _ => rfl⟩
 | box k x =>
  simp only [evalOp] at h
  split at h
  ·rename_i hc
   cases h
   exact ⟨fun H => (frz H []).put id _, ⟨[], fun _ h => absurd h (List.not_mem_nil), .inr (.inl ⟨_, rfl, rfl⟩)⟩, rfl, fun _ _ => by simp only [evalOp, hc, if_true]; rfl⟩
  ·cases h
 | mksl k b z x y =>
  simp only [evalOp] at h
  split at h
  ·rename_i hq1 hq2
   split at h
   ·rename_i hc
    cases h
    exact ⟨fun H => (frz H []).put id _, ⟨[], fun _ h => absurd h (List.not_mem_nil), .inr (.inl ⟨_, rfl, rfl⟩)⟩, rfl, fun _ _ => by simp only [evalOp, hq1, hq2, hc, and_self, if_true]; rfl⟩
   ·cases h
  ·cases h
 | bsl k z n ps =>
  simp only [evalOp] at h
  split at h
  ·rename_i es os hq
   cases h
   have hfm : ((ps.map fun x => (x.1, ρ x.2)).flatMap fun y => y.2.refs) = footD ρ (.bsl k z n ps) := by simp only [footD, List.flatMap_map]
   refine ⟨fun H => (frz H os).put id _, ⟨os, fun o ho => by rw [← hfm]; exact bslA_os hq o ho, .inr (.inl ⟨_, rfl, rfl⟩)⟩, rfl, fun H2 hT => ?_⟩
   simp only [evalOp]
   rw [bslA_loc (H := H) (fun o ho => hT o (by rw [← hfm]; exact ho)), hq]
  ·cases h
 | mkif t x =>
  simp only [evalOp] at h
  split at h
  ·rename_i y os hq
   cases h
   refine ⟨fun H => frz H os, ⟨os, fun o ho => pur_os hq o ho, .inl ⟨rfl, rfl⟩⟩, rfl, fun H2 hT => ?_⟩
   simp only [evalOp]
   rw [pur_loc (H := H) hT, hq]
  ·rename_i hq
   cases h
   refine same rfl ⟨rfl, fun H2 hT => ?_⟩
   simp only [evalOp]
   rw [pur_loc (H := H) hT, hq]
 | store k x y =>
  simp only [evalOp] at h
  split at h
  ·rename_i H1 hst
   simp only [Option.some.injEq, Prod.mk.injEq] at h
   obtain ⟨rfl, rfl⟩ := h
   obtain ⟨o, y', os, g1, g2, g3, g4⟩ := storeA_form hst
   refine ⟨fun H => (frz H os).put o (some y'), ⟨os, fun o' ho' => List.mem_append.2 (.inr (g2 o' ho')), .inr (.inr ⟨o, y', g1, rfl⟩)⟩, g3, fun H2 hT => ?_⟩
   simp only [evalOp]
   rw [g4 H2 hT]
  ·cases h
 | callv x as0 =>
  simp only [evalOp] at h
  split at h
  ·rename_i n caps hq
   split at h
   ·rename_i ds hp
    split at h
    ·rename_i hv; cases h; exact same rfl ⟨rfl, fun H2 _ => by simp only [evalOp, hq, hp, hv]⟩
    ·cases h
   ·rename_i hp
    exfalso
    simp only [IOp.okD, hq, Bool.and_eq_true] at hk
    rw [if_pos hk.1] at hp
    rw [hp] at hk
    simp at hk
  ·rename_i hq; simp [IOp.okD, hq] at hk
  ·rename_i hq; simp [IOp.okD, hq] at hk
  ·cases h
 | call m f args =>
  have hfm : (args.map ρ).flatMap PV.refs = footD ρ (.call m f args) := by simp only [footD, List.flatMap_map]
  match m with
  | 0 =>
   simp only [evalOp] at h
   split at h
   ·rename_i ds os hq
    have hos : ∀ o ∈ os, o ∈ footD ρ (.call 0 f args) := fun o ho => by rw [← hfm]; exact purs_os hq o ho
    have hq2 : ∀ H2 : Heap, (∀ o ∈ footD ρ (.call 0 f args), H2.obj o = H.obj o) → purs H2 (args.map ρ) = some (ds, os) := fun H2 hT => by rw [purs_loc (H := H) (fun o ho => hT o (by rw [← hfm]; exact ho))]; exact hq
    split at h
    ·rename_i r own hv
     simp only [Option.some.injEq, Prod.mk.injEq] at h
     obtain ⟨rfl, rfl⟩ := h
     cases hc : (os.isEmpty || r.scal) with
     | true => exact ⟨fun H => frz H [], ⟨[], fun _ h => absurd h (List.not_mem_nil), .inl ⟨rfl, rfl⟩⟩, by simp [frz], fun H2 hT => by simp only [evalOp, hq2 H2 hT, hv, hc, if_true]; rfl⟩
     | false => exact ⟨fun H => frz H os, ⟨os, hos, .inl ⟨rfl, rfl⟩⟩, by simp, fun H2 hT => by simp only [evalOp, hq2 H2 hT, hv, hc]; simp⟩
    ·cases h
   ·cases h
  | 1 =>
   simp only [evalOp] at h
   split at h
   ·rename_i ds os hq
    have hos : ∀ o ∈ os, o ∈ footD ρ (.call 1 f args) := fun o ho => by rw [← hfm]; exact purs_os hq o ho
    have hq2 : ∀ H2 : Heap, (∀ o ∈ footD ρ (.call 1 f args), H2.obj o = H.obj o) → purs H2 (args.map ρ) = some (ds, os) := fun H2 hT => by rw [purs_loc (H := H) (fun o ho => hT o (by rw [← hfm]; exact ho))]; exact hq
    split at h
    ·rename_i k es t hv
     simp only [Option.some.injEq, Prod.mk.injEq] at h
     obtain ⟨rfl, rfl⟩ := h
     cases hc : os.isEmpty with
     | true => exact ⟨fun H => (frz H []).put id (some (.sl k 0 es)), ⟨[], fun _ h => absurd h (List.not_mem_nil), .inr (.inl ⟨_, rfl, rfl⟩)⟩, by simp [frz], fun H2 hT => by simp only [evalOp, hq2 H2 hT, hv, hc, if_true]; rfl⟩
     | false => exact ⟨fun H => (frz H os).put id (some (.sl k 0 es)), ⟨os, hos, .inr (.inl ⟨_, rfl, rfl⟩)⟩, by simp, fun H2 hT => by simp only [evalOp, hq2 H2 hT, hv, hc]; simp⟩
    ·cases h
   ·cases h
  | m + 2 => simp [IOp.okD] at hk
 | _ => simp [IOp.okD] at hk
theorem K.eq_of {k k' : K} (h : K.eq k k' = true) : k = k' := by
 cases k <;> cases k' <;> simp_all [K.eq]
mutual
theorem dvSame_eq : ∀ (x y : DV), DV.same x y = true → x = y
 | .b x, y, h => by cases y <;> simp_all [DV.same]
 | .i k n, y, h => by cases y <;> simp_all [DV.same]
 | .s x, y, h => by cases y <;> simp_all [DV.same]
 | .a cs, y, h => by
  cases y with
  | a ds => simp only [DV.same] at h; rw [dvSameL_eq cs ds h]
  | _ => simp [DV.same] at h
 | .l k es t, y, h => by
  cases y with
  | l k' fs t' =>
   simp only [DV.same, Bool.and_eq_true] at h
   rw [K.eq_of h.1.1, dvSameL_eq es fs h.2, eq_of_beq h.1.2]
  | _ => simp [DV.same] at h
 | .np, y, h => by cases y <;> simp_all [DV.same]
 | .nf, y, h => by cases y <;> simp_all [DV.same]
 | .ni, y, h => by cases y <;> simp_all [DV.same]
 | .nm, y, h => by cases y <;> simp_all [DV.same]
 | .ifc t v, y, h => by
  cases y with
  | ifc t' w =>
   simp only [DV.same, Bool.and_eq_true] at h
   rw [Nat.eq_of_beq_eq_true h.1, dvSame_eq v w h.2]
  | _ => simp [DV.same] at h
 | .tok n, y, h => by
  cases y with
  | tok m => simp only [DV.same] at h; rw [Nat.eq_of_beq_eq_true h]
  | _ => simp [DV.same] at h
theorem dvSameL_eq : ∀ (xs ys : List DV), DV.sameL xs ys = true → xs = ys
 | [], ys, h => by cases ys <;> simp_all [DV.sameL]
 | x :: xs, ys, h => by
  cases ys with
  | nil => simp [DV.sameL] at h
  | cons y ys =>
   simp only [DV.sameL, Bool.and_eq_true] at h
   rw [dvSame_eq x y h.1, dvSameL_eq xs ys h.2]
end
mutual
theorem pvSame_eq : ∀ (x y : PV), PV.same x y = true → x = y
 | .u, y, h => by cases y <;> simp_all [PV.same]
 | .d v, y, h => by
  cases y with
  | d v' => simp only [PV.same] at h; rw [dvSame_eq v v' h]
  | _ => simp [PV.same] at h
 | .a cs, y, h => by
  cases y with
  | a ds => simp only [PV.same] at h; rw [pvSameL_eq cs ds h]
  | _ => simp [PV.same] at h
 | .t cs, y, h => by
  cases y with
  | t ds => simp only [PV.same] at h; rw [pvSameL_eq cs ds h]
  | _ => simp [PV.same] at h
 | .r o k off len tt, y, h => by
  cases y with
  | r o' k' off' len' tt' =>
   simp only [PV.same, Bool.and_eq_true] at h
   rw [Nat.eq_of_beq_eq_true h.1.1.1.1, K.eq_of h.1.1.1.2, Nat.eq_of_beq_eq_true h.1.1.2, Nat.eq_of_beq_eq_true h.1.2, eq_of_beq h.2]
  | _ => simp [PV.same] at h
 | .p o i c, y, h => by
  cases y with
  | p o' i' c' =>
   simp only [PV.same, Bool.and_eq_true] at h
   rw [Nat.eq_of_beq_eq_true h.1.1, Nat.eq_of_beq_eq_true h.1.2, Nat.eq_of_beq_eq_true h.2]
  | _ => simp [PV.same] at h
 | .q v k c, y, h => by
  cases y with
  | q v' k' c' =>
   simp only [PV.same, Bool.and_eq_true] at h
   rw [dvSame_eq v v' h.1.1, K.eq_of h.1.2, Nat.eq_of_beq_eq_true h.2]
  | _ => simp [PV.same] at h
 | .f n cs, y, h => by
  cases y with
  | f n' ds => simp only [PV.same, Bool.and_eq_true] at h; rw [Nat.eq_of_beq_eq_true h.1, pvSameL_eq cs ds h.2]
  | _ => simp [PV.same] at h
 | .h o, y, h => by
  cases y with
  | h o' => simp only [PV.same] at h; rw [Nat.eq_of_beq_eq_true h]
  | _ => simp [PV.same] at h
 | .g v, y, h => by cases y <;> simp [PV.same] at h
 | .m n cs, y, h => by
  cases y with
  | m n' ds => simp only [PV.same, Bool.and_eq_true] at h; rw [Nat.eq_of_beq_eq_true h.1, pvSameL_eq cs ds h.2]
  | _ => simp [PV.same] at h
 | .w n v, y, h => by
  cases y with
  | w n' v' => simp only [PV.same, Bool.and_eq_true] at h; rw [Nat.eq_of_beq_eq_true h.1, pvSame_eq v v' h.2]
  | _ => simp [PV.same] at h
theorem pvSameL_eq : ∀ (xs ys : List PV), PV.sameL xs ys = true → xs = ys
 | [], ys, h => by cases ys <;> simp_all [PV.sameL]
 | x :: xs, ys, h => by
  cases ys with
  | nil => simp [PV.sameL] at h
  | cons y ys =>
   simp only [PV.sameL, Bool.and_eq_true] at h
   rw [pvSame_eq x y h.1, pvSameL_eq xs ys h.2]
end
theorem objSame_eq {x y : Option Obj} (h : objSame x y = true) : x = y := by
 unfold objSame at h
 split at h
 ·rfl
 ·simp only [Bool.and_eq_true] at h
  rw [K.eq_of h.1, pvSame_eq _ _ h.2]
 ·simp only [Bool.and_eq_true] at h
  rw [K.eq_of h.1.1, Nat.eq_of_beq_eq_true h.1.2, dvSameL_eq _ _ h.2]
 ·simp only [Bool.and_eq_true] at h
  rw [Nat.eq_of_beq_eq_true h.1, eq_of_beq h.2]
 ·rfl
 ·cases h
theorem chgA_mem {H H' : Heap} {o : Nat} : ∀ {l : List Nat}, o ∈ l → o ∉ chgA H H' l → H.obj o = H'.obj o
 | [], h, _ => absurd h (List.not_mem_nil)
 | p :: r, h, hn => by
  simp only [chgA] at hn
  split at hn
  ·rename_i hb
   rcases List.mem_cons.1 h with rfl | h
   ·exact objSame_eq hb
   ·exact chgA_mem h hn
  ·rcases List.mem_cons.1 h with rfl | h
   ·exact absurd (List.mem_cons_self ..) hn
   ·exact chgA_mem h (fun hm => hn (List.mem_cons_of_mem _ hm))
theorem barr_cases {ρ : Rand → PV} {id : Nat} {x : IOp} {v : PV} {H' : Heap} (hk : x.okD ρ = false) (h : evalOpD E ρ H id x = some (v, H')) : evalOp E ρ H id x = some (v, H') ∧ H'.length = H.length := by
 unfold evalOpD at h
 rw [hk] at h
 simp only [Bool.false_eq_true, if_false] at h
 split at h
 ·split at h
  ·rename_i he
   split at h
   ·rename_i hl
    cases h
    exact ⟨he, Nat.eq_of_beq_eq_true hl⟩
   ·cases h
  ·cases h
 ·cases h
theorem obj_out {H : Heap} {o : Nat} (h : H.length ≤ o) : H.obj o = none := by
 unfold Heap.obj
 rw [List.getElem?_eq_none h]
theorem heap_ext {H H2 : Heap} (hl : H2.length = H.length) (h : ∀ o, o < H.length → H2.obj o = H.obj o) : H2 = H := by
 apply List.ext_getElem hl
 intro o h1 h2
 have := h o h2
 unfold Heap.obj at this
 rw [List.getElem?_eq_getElem h1, List.getElem?_eq_getElem h2] at this
 exact this
end
end Go.Sim
end
section
open Go.RowKit
namespace Go.Sim
def putD (fr : Fr) (d : Option Nat) (v : PV) : Fr := match d with | some t => fr.set t v | none => fr
def gd (o : IOper) (fr : Fr) : Option Bool := match o.g with
 | none => some true
 | some (t, want) => match fr.get t with
  | .d (.b b) => some (b == want)
  | .t [] => some false
  | _ => none
theorem stepD_cases {E : Env} {o : IOper} {id : Nat} {s s' : St} (h : stepD E o id s = some s') :
  (gd o s.fr = some true ∧ ∃ v H', evalOpD E (rd E s.fr) s.H id o.op = some (v, H') ∧ s' = ⟨putD s.fr o.dst v, H'⟩) ∨ (gd o s.fr = some false ∧ s' = ⟨putD s.fr o.dst (.t []), s.H⟩) := by
 have hgo : ∀ x, (match evalOpD E (rd E s.fr) s.H id o.op with
   | some (v, H) => some (⟨match o.dst with | some t => s.fr.set t v | none => s.fr, H⟩ : St)
   | none => none) = some x → ∃ v H', evalOpD E (rd E s.fr) s.H id o.op = some (v, H') ∧ x = ⟨putD s.fr o.dst v, H'⟩ := by
  intro x hx
  split at hx
  ·rename_i v H he
   cases hx
   exact ⟨v, H, he, rfl⟩
  ·cases hx
 unfold stepD at h
 unfold gd
 simp only at h
 split at h
 ·rename_i hg; rw [hg]; exact .inl ⟨rfl, hgo _ h⟩
 ·rename_i t want hg
  rw [hg]
  simp only
  split at h
  ·rename_i b hb
   simp only [hb]
   split at h
   ·rename_i hw; exact .inl ⟨by simp [hw], hgo _ h⟩
   ·rename_i hw
    have : (b == want) = false := by simpa using hw
    cases h; exact .inr ⟨by simp [this], rfl⟩
  ·rename_i hb
   simp only [hb]
   cases h; exact .inr ⟨by simp, rfl⟩
  ·cases h
theorem get_putD (fr : Fr) (d : Option Nat) (v : PV) (t : Nat) : (putD fr d v).get t = if d = some t then v else fr.get t := by
 cases d with
 | none => simp [putD]
 | some d =>
  simp only [putD, get_set, Option.some.injEq]
  by_cases h : t = d
  ·subst h; simp
  ·rw [if_neg h, if_neg (fun e => h e.symm)]
theorem nadds_take_succ : ∀ (L : List IOper) (i : Nat) (h : i < L.length), nadds (L.take (i + 1)) = nadds (L.take i) + (if L[i].op.adds then 1 else 0)
 | [], i, h => absurd h (Nat.not_lt_zero _)
 | o :: L, 0, _ => by simp [nadds]
 | o :: L, i + 1, h => by
  have := nadds_take_succ L i (by simpa using h)
  simp only [List.take_succ_cons, nadds, List.getElem_cons_succ] at this ⊢
  rw [this]; omega
theorem nadds_take_le (L : List IOper) : ∀ i, nadds (L.take i) ≤ nadds L := by
 induction L with
 | nil => intro i; simp [nadds]
 | cons o L ih =>
  intro i
  cases i with
  | zero => simp [nadds]
  | succ i => simp only [List.take_succ_cons, nadds]; have := ih i; omega
section
variable {α : Type} (w : Nat → Nat → Bool) (v : Nat → Nat → α) (z : Nat → α)
def GF (S : Nat → Bool) : Nat → Nat → α
 | 0, t => z t
 | j + 1, t => if S j && w j t then v j t else GF S j t
variable {w v z}
theorem GF_congr {S S' : Nat → Bool} {t : Nat} : ∀ {m : Nat}, (∀ j, j < m → w j t = true → S j = S' j) → GF w v z S m t = GF w v z S' m t
 | 0, _ => rfl
 | m + 1, h => by
  simp only [GF]
  cases hw : w m t with
  | true => rw [h m (Nat.lt_succ_self m) hw, GF_congr (fun j hj => h j (Nat.lt_succ_of_lt hj))]
  | false =>
   simp only [Bool.and_false, Bool.false_eq_true, if_false]
   exact GF_congr (fun j hj => h j (Nat.lt_succ_of_lt hj))
theorem GF_cut {t i : Nat} : ∀ {m : Nat}, i ≤ m → GF w v z (fun j => decide (j < i)) m t = GF w v z (fun _ => true) i t
 | 0, h => by
  have : i = 0 := by omega
  subst this; rfl
 | m + 1, h => by
  by_cases hm : i = m + 1
  ·subst hm
   exact GF_congr (fun j hj _ => by simpa using hj)
  ·simp only [GF]
   have : decide (m < i) = false := by simp; omega
   simp only [this, Bool.false_and, Bool.false_eq_true, if_false]
   exact GF_cut (by omega)
theorem GF_text {x : Nat → Nat → α} {n t : Nat} (h0 : x 0 t = z t) (h1 : ∀ i, i < n → w i t = true → v i t = x (i + 1) t) (h2 : ∀ i, i < n → w i t = false → x (i + 1) t = x i t) : ∀ i, i ≤ n → x i t = GF w v z (fun _ => true) i t
 | 0, _ => h0
 | i + 1, hi => by
  simp only [GF, Bool.true_and]
  cases hw : w i t with
  | true => rw [if_pos rfl, h1 i (by omega) hw]
  | false =>
   rw [h2 i (by omega) hw]
   simp only [Bool.false_eq_true, if_false]
   exact GF_text h0 h1 h2 i (by omega)
theorem GF_put {S : Nat → Bool} {i t : Nat} : ∀ {m : Nat}, i < m → S i = false → (∀ j, i < j → j < m → w j t = true → w i t = true → S j = false) →
  GF w v z (fun j => S j || j == i) m t = if w i t then v i t else GF w v z S m t
 | 0, h, _, _ => absurd h (Nat.not_lt_zero _)
 | m + 1, h, hS, hlast => by
  by_cases hm : i = m
  ·subst hm
   simp only [GF, BEq.rfl, Bool.or_true, Bool.true_and]
   cases hw : w i t with
   | true => rfl
   | false =>
    simp only [Bool.and_false, Bool.false_eq_true, if_false]
    exact GF_congr (fun j hj _ => by
     have : (j == i) = false := by simp; omega
     simp [this])
  ·have hlt : i < m := by omega
   have hmi : (m == i) = false := by simp; omega
   have ih := GF_put (S := S) (t := t) hlt hS (fun j h1 h2 h3 h4 => hlast j h1 (by omega) h3 h4)
   simp only [GF, hmi, Bool.or_false]
   rw [ih]
   cases hw : w i t with
   | true =>
    rw [if_pos rfl, if_pos rfl]
    split
    ·rename_i hc
     simp only [Bool.and_eq_true] at hc
     have := hlast m hlt (Nat.lt_succ_self m) hc.2 hw
     rw [this] at hc; simp at hc
    ·rfl
   | false => simp
end
theorem put_obj (H : Heap) (o p : Nat) (x : Option Obj) : (H.put p x).obj o = if o = p ∧ p < H.length then x else H.obj o := by
 by_cases hp : o = p
 ·subst hp
  by_cases hl : o < H.length
  ·rw [if_pos ⟨rfl, hl⟩, obj_put_same hl]
  ·rw [if_neg (fun h => hl h.2)]
   have e1 : (H.put o x).length = H.length := put_length _ _ _
   unfold Heap.obj
   rw [List.getElem?_eq_none (by omega), List.getElem?_eq_none (by omega)]
 ·rw [if_neg (fun h => hp h.1), obj_put_ne (fun h => hp h.symm)]
theorem frzO_out {os : List Nat} {o : Nat} (h : o ∉ os) (x : Option Obj) : frzO os o x = x := by
 unfold frzO
 split
 ·rw [if_neg (by simpa using h)]
 ·rfl
theorem storeD_foot {ρ : Rand → PV} {x : IOp} {o : Nat} (h : o ∈ storeD ρ x) : o ∈ footD ρ x := by
 cases x <;> simp_all [storeD, footD]
section
variable {ρ : Rand → PV} {x : IOp} {id : Nat} {F : Heap → Heap} {H H2 : Heap} {o : Nat}
theorem form_len (hF : Form ρ x id F) (H : Heap) : (F H).length = H.length := by
 obtain ⟨os, -, ⟨-, rfl⟩ | ⟨y, -, rfl⟩ | ⟨p, y, -, rfl⟩⟩ := hF <;> simp [put_length, frz_length]
theorem form_out (hF : Form ρ x id F) (h1 : o ∉ footD ρ x) (h2 : ¬ (x.adds = true ∧ o = id)) : (F H).obj o = H.obj o := by
 obtain ⟨os, h0, h⟩ := hF
 have hf : (frz H os).obj o = H.obj o := by rw [frz_obj]; exact frzO_out (fun h => h1 (h0 o h)) _
 rcases h with ⟨-, rfl⟩ | ⟨y, ha, rfl⟩ | ⟨p, y, hp, rfl⟩
 ·exact hf
 ·simp only [put_obj]
  rw [if_neg (fun h => h2 ⟨ha, h.1⟩)]; exact hf
 ·simp only [put_obj]
  rw [if_neg (fun (h : o = p ∧ _) => h1 (h.1 ▸ storeD_foot hp))]; exact hf
theorem form_in (hF : Form ρ x id F) (hT : ∀ o ∈ footD ρ x, H2.obj o = H.obj o) (hl : H2.length = H.length) (h1 : o ∈ footD ρ x ∨ (x.adds = true ∧ o = id)) : (F H2).obj o = (F H).obj o := by
 obtain ⟨os, h0, h⟩ := hF
 have hf : o ∈ footD ρ x → (frz H2 os).obj o = (frz H os).obj o := fun h => by rw [frz_obj, frz_obj, hT o h]
 rcases h with ⟨ha, rfl⟩ | ⟨y, ha, rfl⟩ | ⟨p, y, hp, rfl⟩
 ·rcases h1 with h1 | h1
  ·exact hf h1
  ·rw [ha] at h1; cases h1.1
 ·simp only [put_obj, frz_length, hl]
  by_cases hc : o = id ∧ id < H.length
  ·rw [if_pos hc, if_pos hc]
  ·rw [if_neg hc, if_neg hc]
   rcases h1 with h1 | h1
   ·exact hf h1
   ·have hge : H.length ≤ o := by
     rw [h1.2] at hc ⊢
     simpa using hc
    have hz : ∀ G : Heap, G.length = H.length → G.obj o = none := fun G hG => by
     unfold Heap.obj
     rw [List.getElem?_eq_none (by omega)]
    rw [hz _ (by rw [frz_length, hl]), hz _ (frz_length _ _)]
 ·simp only [put_obj, frz_length, hl]
  by_cases hc : o = p ∧ p < H.length
  ·rw [if_pos hc, if_pos hc]
  ·rw [if_neg hc, if_neg hc]
   rcases h1 with h1 | h1
   ·exact hf h1
   ·exfalso
    cases x <;> simp [storeD] at hp <;> simp [IOp.adds] at h1
theorem form_keep (hF : Form ρ x id F) (h1 : o ∉ storeD ρ x) (h2 : ¬ (x.adds = true ∧ o = id)) (hr : roOf (H.obj o) = roOf ((F H).obj o)) : (F H).obj o = H.obj o := by
 obtain ⟨os, h0, h⟩ := hF
 have hf : (F H).obj o = frzO os o (H.obj o) := by
  rw [← frz_obj]
  rcases h with ⟨-, rfl⟩ | ⟨y, ha, rfl⟩ | ⟨p, y, hp, rfl⟩
  ·rfl
  ·simp only [put_obj]
   rw [if_neg (fun h => h2 ⟨ha, h.1⟩)]
  ·simp only [put_obj]
   rw [if_neg (fun (h : o = p ∧ _) => h1 (h.1 ▸ hp))]
 rw [hf] at hr ⊢
 cases ho : H.obj o with
 | none => rfl
 | some x =>
  cases x with
  | sl k ro es =>
   rw [ho] at hr
   simp only [frzO, roOf] at hr ⊢
   rw [← hr]
  | _ => rfl
end
theorem chg_mem {H H' : Heap} {o : Nat} : ∀ {l : List Nat}, o ∈ l → o ∉ chg H H' l → roOf (H.obj o) = roOf (H'.obj o)
 | [], h, _ => absurd h (List.not_mem_nil)
 | p :: r, h, hn => by
  simp only [chg] at hn
  split at hn
  ·rename_i hb
   rcases List.mem_cons.1 h with rfl | h
   ·exact Nat.eq_of_beq_eq_true hb
   ·exact chg_mem h hn
  ·rcases List.mem_cons.1 h with rfl | h
   ·exact absurd (List.mem_cons_self ..) hn
   ·exact chg_mem h (fun hm => hn (List.mem_cons_of_mem _ hm))
theorem chg_sub {H H' : Heap} {o : Nat} : ∀ {l : List Nat}, o ∈ chg H H' l → o ∈ l
 | [], h => by cases h
 | p :: r, h => by
  simp only [chg] at h
  split at h
  ·exact List.mem_cons_of_mem _ (chg_sub h)
  ·rcases List.mem_cons.1 h with rfl | h
   ·exact List.mem_cons_self ..
   ·exact List.mem_cons_of_mem _ (chg_sub h)
theorem gd_runs {o : IOper} {fr : Fr} {b : Bool} (h : gd o fr = some b) : runs o fr = b := by
 unfold gd at h
 unfold runs
 cases hg : o.g with
 | none => rw [hg] at h; simpa using h
 | some p =>
  obtain ⟨t, want⟩ := p
  rw [hg] at h
  simp only at h ⊢
  split at h
  ·rename_i hb; rw [hb]; simpa using h
  ·rename_i hb; rw [hb]; simpa using h
  ·cases h
theorem disj_spec {a b : List Nat} (h : disj a b = true) {o : Nat} (ha : o ∈ a) : o ∉ b := by
 have := List.all_eq_true.1 h o ha
 simpa using this
def WW (E : Env) (L : List IOper) (id : Nat) (st : Nat → St) (k : Nat) : List Nat := writeS E (L.getD k default) (id + nadds (L.take k)) (st k) (st (k + 1))
def TT (E : Env) (L : List IOper) (id : Nat) (st : Nat → St) (k : Nat) : List Nat := WW E L id st k ++ touchS E (L.getD k default) (st k)
theorem pairs_spec {b : Nat} {t w : List Nat} : ∀ {l : List (List Nat × List Nat)} {k : Nat}, pairsD b k l t w = true → ∀ i (h : i < l.length), (disj l[i].2 t = true ∧ disj w l[i].1 = true) ∨ b.testBit (k + i) = true
 | [], k, _, i, h => absurd h (Nat.not_lt_zero _)
 | x :: r, k, hp, i, h => by
  simp only [pairsD, Bool.and_eq_true, Bool.or_eq_true] at hp
  cases i with
  | zero => exact hp.1.symm
  | succ i =>
   have := pairs_spec hp.2 i (by simpa using h)
   rw [show k + (i + 1) = k + 1 + i by omega]
   exact this
theorem trace_exists {E : Env} : ∀ (L : List IOper) (bf : List Nat) (acc : List (List Nat × List Nat)) (id : Nat) (s s' : St), evalOpsD E L bf acc id s = some s' → ∃ st : Nat → St, st 0 = s ∧ st L.length = s' ∧ (∀ i (h : i < L.length), stepD E L[i] (id + nadds (L.take i)) (st i) = some (st (i + 1))) ∧
  ∀ j, j < L.length → pairsD (bf.getD j 0) 0 (acc ++ (List.range j).map fun k => (TT E L id st k, WW E L id st k)) (TT E L id st j) (WW E L id st j) = true
 | [], bf, acc, id, s, s', h => by cases h; exact ⟨fun _ => s, rfl, rfl, fun i h => absurd h (Nat.not_lt_zero _), fun i h => absurd h (Nat.not_lt_zero _)⟩
 | o :: L, bf, acc, id, s, s', h => by
  simp only [evalOpsD] at h
  split at h
  ·rename_i s1 h1
   split at h
   ·rename_i hp
    obtain ⟨st, q1, q2, q3, q4⟩ := trace_exists L _ _ _ s1 s' h
    let st' : Nat → St := fun i => match i with | 0 => s | i + 1 => st i
    have e : ∀ i, id + nadds (o :: L.take i) = (if o.op.adds then id + 1 else id) + nadds (L.take i) := fun i => by
     simp only [nadds]; split <;> omega
    have hW0 : WW E (o :: L) id st' 0 = writeS E o id s s1 := by
     show writeS E o (id + nadds []) s (st 0) = _
     rw [q1]; rfl
    have hT0 : TT E (o :: L) id st' 0 = writeS E o id s s1 ++ touchS E o s := by
     unfold TT; rw [hW0]; rfl
    have hWs : ∀ k, WW E (o :: L) id st' (k + 1) = WW E L (if o.op.adds then id + 1 else id) st k := fun k => by
     show writeS E (L.getD k default) (id + nadds (o :: L.take k)) (st k) (st (k + 1)) = _
     rw [e]; rfl
    have hTs : ∀ k, TT E (o :: L) id st' (k + 1) = TT E L (if o.op.adds then id + 1 else id) st k := fun k => by
     unfold TT; rw [hWs]; rfl
    refine ⟨st', rfl, q2, ?_, ?_⟩
    ·intro i hi
     cases i with
     | zero => simpa [nadds, q1, st'] using h1
     | succ i =>
      have := q3 i (by simpa using hi)
      simp only [List.getElem_cons_succ, List.take_succ_cons]
      rw [e]; exact this
    ·intro j hj
     cases j with
     | zero =>
      rw [hT0, hW0]
      simpa [List.headD_eq_head?_getD, List.getD, List.head?_eq_getElem?] using hp
     | succ j =>
      have := q4 j (by simpa using hj)
      rw [hTs, hWs, List.range_succ_eq_map, List.map_cons, List.map_map]
      have e2 : (List.range j).map ((fun k => (TT E (o :: L) id st' k, WW E (o :: L) id st' k)) ∘ Nat.succ) = (List.range j).map fun k => (TT E L (if o.op.adds then id + 1 else id) st k, WW E L (if o.op.adds then id + 1 else id) st k) := by
       apply List.map_congr_left
       intro k _
       show (TT E (o :: L) id st' (k + 1), WW E (o :: L) id st' (k + 1)) = _
       rw [hTs, hWs]
      rw [e2, hT0, hW0]
      have e3 : bf.getD (j + 1) 0 = bf.tail.getD j 0 := by cases bf <;> rfl
      rw [e3]
      simpa [List.append_assoc] using this
   ·cases h
  ·cases h
section
variable (L : List IOper) (st : Nat → St) (id0 : Nat)
def idAt (i : Nat) : Nat := id0 + nadds (L.take i)
variable {L st id0} {E : Env}
theorem step_heap (htr : ∀ i (h : i < L.length), stepD E L[i] (id0 + nadds (L.take i)) (st i) = some (st (i + 1))) {i : Nat} (hi : i < L.length) : (st (i + 1)).H.length = (st i).H.length ∧ ∀ o, o ∉ WW E L id0 st i → (st (i + 1)).H.obj o = (st i).H.obj o := by
 have hg : L.getD i default = L[i] := by simp [List.getD, List.getElem?_eq_getElem hi]
 have hs := htr i hi
 rcases stepD_cases hs with ⟨hgd, v, H', he, h⟩ | ⟨hgd, h⟩
 ·cases hk : L[i].op.okD (rd E (st i).fr) with
  | false =>
   obtain ⟨-, hl⟩ := barr_cases hk he
   have hH : (st (i + 1)).H = H' := by rw [h]
   refine ⟨by rw [hH]; exact hl, fun o ho => ?_⟩
   unfold WW writeS at ho
   rw [hg, gd_runs hgd] at ho
   simp only [if_true, hk, Bool.false_eq_true, if_false, List.mem_append, not_or] at ho
   by_cases hm : o < (st i).H.length
   ·exact (chgA_mem (List.mem_range.2 hm) ho.2).symm
   ·rw [obj_out (show (st (i + 1)).H.length ≤ o by rw [hH, hl]; omega), obj_out (show (st i).H.length ≤ o by omega)]
  | true =>
  obtain ⟨F, hF, rfl, -⟩ := opD_form hk he
  have hH : (st (i + 1)).H = F (st i).H := by rw [h]
  refine ⟨by rw [hH]; exact form_len hF _, fun o ho => ?_⟩
  unfold WW writeS at ho
  rw [hg, gd_runs hgd] at ho
  simp only [if_true, hk, List.mem_append, not_or] at ho
  obtain ⟨h1, h2, h3⟩ := ho
  have h1' : ¬ (L[i].op.adds = true ∧ o = id0 + nadds (L.take i)) := by
   rintro ⟨a, b⟩
   rw [if_pos a] at h1
   exact h1 (by rw [b]; exact List.mem_singleton.2 rfl)
  rw [hH] at h3 ⊢
  by_cases hm : o ∈ footD (rd E (st i).fr) L[i].op
  ·exact form_keep hF h2 h1' (chg_mem hm h3)
  ·exact form_out hF hm h1'
 ·have hH : (st (i + 1)).H = (st i).H := by rw [h]
  rw [hH]; exact ⟨rfl, fun _ _ => rfl⟩
theorem trace_len (htr : ∀ i (h : i < L.length), stepD E L[i] (id0 + nadds (L.take i)) (st i) = some (st (i + 1))) : ∀ i, i ≤ L.length → (st i).H.length = (st 0).H.length
 | 0, _ => rfl
 | i + 1, hi => ((step_heap htr (show i < L.length by omega)).1).trans (trace_len htr i (by omega))
def wF (L : List IOper) (j t : Nat) : Bool := (L.getD j default).dst == some t
theorem step_fr (htr : ∀ i (h : i < L.length), stepD E L[i] (id0 + nadds (L.take i)) (st i) = some (st (i + 1))) {i : Nat} (hi : i < L.length) {t : Nat} (h : wF L i t = false) : (st (i + 1)).fr.get t = (st i).fr.get t := by
 have hg : L.getD i default = L[i] := by simp [List.getD, List.getElem?_eq_getElem hi]
 have hd : L[i].dst ≠ some t := by
  unfold wF at h; rw [hg] at h; simpa using h
 rcases stepD_cases (htr i hi) with ⟨-, v, H', -, h⟩ | ⟨-, h⟩ <;> rw [h, get_putD, if_neg hd]
def TF (L : List IOper) (st : Nat → St) (S : Nat → Bool) (m t : Nat) : PV := GF (wF L) (fun j t => (st (j + 1)).fr.get t) (fun t => (st 0).fr.get t) S m t
def HF (E : Env) (L : List IOper) (id0 : Nat) (st : Nat → St) (S : Nat → Bool) (m o : Nat) : Option Obj := GF (fun j o => (WW E L id0 st j).contains o) (fun j o => (st (j + 1)).H.obj o) (fun o => (st 0).H.obj o) S m o
theorem TF_text (htr : ∀ i (h : i < L.length), stepD E L[i] (id0 + nadds (L.take i)) (st i) = some (st (i + 1))) (t i : Nat) (hi : i ≤ L.length) : (st i).fr.get t = TF L st (fun _ => true) i t :=
 GF_text (x := fun i t => (st i).fr.get t) (n := L.length) rfl (fun _ _ _ => rfl) (fun _i hi hw => step_fr htr hi hw) i hi
theorem HF_text (htr : ∀ i (h : i < L.length), stepD E L[i] (id0 + nadds (L.take i)) (st i) = some (st (i + 1))) (o i : Nat) (hi : i ≤ L.length) : (st i).H.obj o = HF E L id0 st (fun _ => true) i o :=
 GF_text (x := fun i o => (st i).H.obj o) (n := L.length) rfl (fun _ _ _ => rfl) (fun i hi hw => (step_heap htr hi).2 o (by simpa using hw)) i hi
end
theorem countP_lt {p p' : Nat → Bool} {i : Nat} : ∀ {l : List Nat}, (∀ j ∈ l, p' j = true → p j = true) → i ∈ l → p i = true → p' i = false → l.countP p' < l.countP p
 | [], _, h, _, _ => (List.not_mem_nil h).elim
 | x :: l, hle, hi, h1, h2 => by
  simp only [List.countP_cons]
  have hm : l.countP p' ≤ l.countP p := List.countP_mono_left (fun j hj => hle j (List.mem_cons_of_mem _ hj))
  rcases List.mem_cons.1 hi with rfl | hi
  ·rw [h1, h2]; simp; omega
  ·have := countP_lt (fun j hj => hle j (List.mem_cons_of_mem _ hj)) hi h1 h2
   have hx := hle x (List.mem_cons_self ..)
   cases hp : p' x with
   | true => rw [hx hp]; simp; omega
   | false => cases p x <;> simp <;> omega
theorem apart_spec {x y : IOper} (h : apartD x y = true) : (∀ d, x.dst = some d → d ∉ y.uses ∧ y.dst ≠ some d) ∧ (∀ d, y.dst = some d → d ∉ x.uses) := by
 unfold apartD at h
 simp only [Bool.and_eq_true] at h
 obtain ⟨h1, h2⟩ := h
 refine ⟨?_, ?_⟩
 ·intro d hd
  rw [hd] at h1
  simpa using h1
 ·intro d hd
  rw [hd] at h2
  simpa using h2
theorem idAt_lt {L : List IOper} {id0 i k : Nat} (hi : i < L.length) (ha : (L.getD i default).op.adds = true) (hk : i < k) : idAt L id0 i < idAt L id0 k := by
 have hg : L.getD i default = L[i] := by simp [List.getD, List.getElem?_eq_getElem hi]
 rw [hg] at ha
 have h1 := nadds_take_succ L i hi
 rw [if_pos ha] at h1
 have h2 : nadds (L.take (i + 1)) ≤ nadds (L.take k) := by
  have : L.take (i + 1) = (L.take k).take (i + 1) := by rw [List.take_take, Nat.min_eq_left hk]
  rw [this]; exact nadds_take_le _ _
 unfold idAt; omega
end Go.Sim
end
section
open Go.RowKit
namespace Go.Sim
section
variable {P : Program} {N : Names} {C : Cx} {B base nt : Nat} {E : Env} {ro : Option Nat} {nf : Nat}
theorem wanted_gd {ops : Array Oper} {o : Oper} {fr : Fr} {w : World} {S : Stab} {β : Pl} {a : Act} (hf : FOK C w S β fr a) {x : IOp} {g : Option (Nat × Bool)} (hg : digG ops o.guard = some g) {b : Bool} (h : gd ⟨o.dst, x, g⟩ fr = some b) :
  Region.wanted o (yielded ops a.tmps) = b := by
 cases hgo : o.guard with
 | none =>
  rw [hgo] at hg
  simp only [digG, Option.some.injEq] at hg
  subst hg
  simp only [gd, Option.some.injEq] at h
  simp [Region.wanted, hgo, h]
 | some gw =>
  obtain ⟨j, want⟩ := gw
  rw [hgo] at hg
  simp only [digG] at hg
  obtain ⟨t, ht, hg⟩ := Option.bind_eq_some_iff.1 hg
  cases hg
  simp only [gd] at h
  have hyt := hf t
  have hy : yielded ops a.tmps j = match a.tmps[t]? with | some (.bool b) => some b | _ => none := by
   unfold yielded; rw [ht]; rfl
  split at h
  ·rename_i b' hb
   rw [hb] at hyt
   have := bool_rel hyt
   have hyb : yielded ops a.tmps j = some b' := by
    rw [hy]
    rw [Array.getD_eq_getD_getElem?] at this
    cases hq : a.tmps[t]? with
    | none => rw [hq] at this; cases this
    | some z => rw [hq] at this; simp at this; subst this; rfl
   simp only [Option.some.injEq] at h
   rw [← h]
   simp only [Region.wanted, hgo, hyb]
   cases b' <;> cases want <;> rfl
  ·rename_i hb
   rw [hb] at hyt
   have hyb : yielded ops a.tmps j = none := by
    rw [hy]
    rw [Array.getD_eq_getD_getElem?] at hyt
    cases hq : a.tmps[t]? with
    | none => rfl
    | some z =>
     rw [hq] at hyt
     simp only [Option.getD_some] at hyt
     cases hyt
     rfl
   simp only [Option.some.injEq] at h
   rw [← h]
   simp only [Region.wanted, hgo, hyb]
   rfl
  ·cases h
theorem gd_congr {o : IOper} {fr fr' : Fr} (h : ∀ t ∈ o.uses, fr.get t = fr'.get t) : gd o fr = gd o fr' := by
 unfold gd
 cases hg : o.g with
 | none => rfl
 | some p =>
  obtain ⟨t, want⟩ := p
  simp only
  rw [h t (by simp [IOper.uses, hg])]
theorem draw_sim (hO : OrOK P C N E) (hN : NOK P N C E.G) (hng : nt ≤ gh) {ops : Array Oper} (hnof : ∀ o ∈ ops.toList, isDefer o.op = false) {L : List IOper} (hL : L = ops.toList.map (digO P N ops)) {st : Nat → St} {id0 : Nat} {Q : Exit → Act → World → Prop} (hdst : ∀ o ∈ ops.toList, ∀ d, o.dst = some d → d < nt)
  (hok : drawOK ops.toList L = true) (htr : ∀ i (h : i < L.length), stepD E L[i] (id0 + nadds (L.take i)) (st i) = some (st (i + 1)))
  (hpd : ∀ j, j < L.length → pairsD ((bef ops.toList []).getD j 0) 0 ((List.range j).map fun k => (TT E L id0 st k, WW E L id0 st k)) (TT E L id0 st j) (WW E L id0 st j) = true) (hR : id0 + nadds L ≤ (st 0).H.length) (hbase : base ≤ id0)
  {w0 : World} {S0 : Stab} {β0 : Pl} (hQ : ∀ a' w' S' β', Inv P N C E B base nt (st L.length) a' w' S' β' → Ext B w0 S0 w' S' → Lb base β0 β' → Q .normal a' w') :
  ∀ (fuel : Nat) (listed : Array Bool) (a : Act) (w : World) (S : Stab) (β : Pl) (fr : Fr) (Hc : Heap), listed.size = L.length → (∀ j (h : j < ops.toList.length), listed.getD j false = true → ∀ e ∈ ops.toList[j].after.toList, Region.binds .any e = true → listed.getD e.on false = true) →
   (List.range L.length).countP (fun j => !listed.getD j false) ≤ fuel → Inv P N C E B base nt ⟨fr, Hc⟩ a w S β → (∀ t, fr.get t = TF L st (fun j => listed.getD j false) L.length t) → (∀ o, Hc.obj o = HF E L id0 st (fun j => listed.getD j false) L.length o) → Hc.length = (st 0).H.length →
   (∀ k, k < L.length → (L.getD k default).op.adds = true → listed.getD k false = false → β (idAt L id0 k) = .pend) →
   Ext B w0 S0 w S → Lb base β0 β → wpAnyIn (FR ro) nf P .any ops Q fuel listed a w := by
 have hlen : L.length = ops.size := by rw [hL]; simp
 have hgetL : ∀ i (h : i < L.length), L.getD i default = L[i] := fun i h => by simp [List.getD, List.getElem?_eq_getElem h]
 have hchk : ∀ j, j < L.length → (∀ e ∈ (ops.toList.getD j default).after.toList, Region.binds .any e = true → e.on < j) ∧ ∀ i, i < j → ((bef ops.toList []).getD j 0).testBit i = true ∨ apartD (L.getD i default) (L.getD j default) = true := by
  intro j hj
  simp only [drawOK, List.all_eq_true, List.mem_range, Bool.and_eq_true, Bool.or_eq_true, Bool.not_eq_true', decide_eq_true_eq, Array.length_toList] at hok
  obtain ⟨h1, h2⟩ := hok j (by omega)
  refine ⟨fun e he hb => (h1 e he).resolve_left (by simp [hb]), h2⟩
 have hchk2 : ∀ j, j < L.length → ∀ i, i < j → ((bef ops.toList []).getD j 0).testBit i = true ∨ ((∀ o, o ∈ WW E L id0 st i → o ∉ TT E L id0 st j) ∧ ∀ o, o ∈ WW E L id0 st j → o ∉ TT E L id0 st i) := by
  intro j hj i hi
  have := pairs_spec (hpd j hj) i (by simpa using hi)
  simp only [List.getElem_map, List.getElem_range, Nat.zero_add] at this
  rcases this with ⟨h1, h2⟩ | h
  ·exact .inr ⟨fun o ho => disj_spec h1 ho, fun o ho => disj_spec h2 ho⟩
  ·exact .inl h
 have hWT : ∀ i o, o ∈ WW E L id0 st i → o ∈ TT E L id0 st i := fun i o h => List.mem_append.2 (.inl h)
 have hopsget : ∀ j (h : j < ops.toList.length), ops.toList.getD j default = ops.toList[j] := fun j h => by simp [List.getD, List.getElem?_eq_getElem h]
 have hheap := fun i hi => trace_len htr i hi
 have done : ∀ (listed : Array Bool) (a : Act) (w : World) (S : Stab) (β : Pl) (fr : Fr) (Hc : Heap), (∀ j, j < L.length → listed.getD j false = true) → Inv P N C E B base nt ⟨fr, Hc⟩ a w S β → (∀ t, fr.get t = TF L st (fun j => listed.getD j false) L.length t) → (∀ o, Hc.obj o = HF E L id0 st (fun j => listed.getD j false) L.length o) → Hc.length = (st 0).H.length →
   Ext B w0 S0 w S → Lb base β0 β → Q .normal a w := by
  intro listed a w S β fr Hc hall hI hfr hHc hHl he hlb
  refine hQ a w S β ?_ he hlb
  have hend : ∀ o, Hc.obj o = (st L.length).H.obj o := by
   intro o
   rw [hHc o, HF_text htr o L.length (Nat.le_refl _)]
   exact GF_congr (fun j hj _ => hall j hj)
  have hlenE : (st L.length).H.length = Hc.length := by rw [hHl]; exact hheap L.length (Nat.le_refl _)
  have eqf : ∀ t, (st L.length).fr.get t = fr.get t := by
   intro t
   rw [TF_text htr t L.length (Nat.le_refl _), hfr t]
   exact GF_congr (fun j hj _ => (hall j hj).symm)
  refine ⟨hI.swf, hI.gok, hI.hB, ⟨?_, ?_, ?_, hI.hok.inj, ?_, ?_, hI.hok.spi⟩, ?_, hI.size, hI.defers.frame (fun t _ => eqf t), hI.yok, by rw [hlenE]; exact hI.base⟩
  ·intro o blk b k h
   rw [← hend]; exact hI.hok.live o blk b k h
  ·intro o h; rw [← hend]; exact hI.hok.dead o h
  ·intro o h; rw [← hend]; exact hI.hok.virt o h
  ·intro o h; rw [hlenE] at h; exact hI.hok.out o h
  ·intro o blk x h; rw [← hend]; exact hI.hok.sp o blk x h
  ·intro t
   rw [eqf]; exact hI.fok t
 intro fuel
 induction fuel with
 | zero =>
  intro listed a w S β fr Hc hsz hcl hcnt hI hfr hHc hHl hpend he hlb
  have hall : ∀ j, j < L.length → listed.getD j false = true := by
   intro j hj
   have h0 : (List.range L.length).countP (fun j => !listed.getD j false) = 0 := by omega
   rw [List.countP_eq_zero] at h0
   have := h0 j (List.mem_range.2 hj)
   simpa using this
  refine ⟨?_, done listed a w S β fr Hc hall hI hfr hHc hHl he hlb⟩
  rw [List.eq_nil_iff_forall_not_mem]
  intro j hj
  rw [mem_ready] at hj
  obtain ⟨h1, o, ho, -⟩ := hj
  have hj' : j < L.length := by rw [hlen]; exact (Array.getElem?_eq_some_iff.1 ho).1
  have h2 := hall j hj'
  have : listed.getD j true = listed.getD j false := by
   simp [Array.getD_eq_getD_getElem?, Array.getElem?_eq_getElem (show j < listed.size by omega)]
  rw [this, h2] at h1; cases h1
 | succ fuel ih =>
  intro listed a w S β fr Hc hsz hcl hcnt hI hfr hHc hHl hpend he hlb
  have hgd : ∀ j, j < L.length → listed.getD j true = listed.getD j false := fun j hj => by
   simp [Array.getD_eq_getD_getElem?, Array.getElem?_eq_getElem (show j < listed.size by omega)]
  refine ⟨?_, ?_⟩
  ·intro hnil
   refine done listed a w S β fr Hc ?_ hI hfr hHc hHl he hlb
   intro j
   induction j using Nat.strongRecOn with
   | ind j ihj =>
    intro hj
    cases hl : listed.getD j false with
    | true => rfl
    | false =>
     exfalso
     have hjo : j < ops.size := by omega
     have : j ∈ Region.ready .any ops listed := by
      rw [mem_ready]
      refine ⟨by rw [hgd j hj]; exact hl, ops[j], by simp [hjo], ?_⟩
      intro e hem hb
      have hlt := (hchk j hj).1 e (by rw [hopsget j (by simpa using hjo)]; simpa using hem) hb
      exact ihj e.on hlt (by omega)
     rw [hnil] at this
     exact List.not_mem_nil this
  ·intro i hi
   rw [mem_ready] at hi
   obtain ⟨hun, o, ho, hpre⟩ := hi
   have hio : i < ops.size := (Array.getElem?_eq_some_iff.1 ho).1
   have hiL : i < L.length := by omega
   have hoi : ops.toList[i]'(by simpa using hio) = o := by
    have := (Array.getElem?_eq_some_iff.1 ho).2
    simpa using this
   rw [hgd i hiL] at hun
   have hbefi : ∀ k, ((bef ops.toList []).getD i 0).testBit k = true → listed.getD k false = true :=
    bef_closed (S := fun k => listed.getD k false = true) hcl i (by simpa using hio) (fun e hem hb => hpre e (by rw [hoi] at hem; simpa using hem) hb)
   have hafter : ∀ j, j < L.length → ((bef ops.toList []).getD j 0).testBit i = true → listed.getD j false = false := by
    intro j hj hb
    cases hl : listed.getD j false with
    | false => rfl
    | true =>
     have := bef_closed (S := fun k => listed.getD k false = true) hcl j (by simp; omega) (fun e hem hb' => hcl j (by simp; omega) hl e hem hb') i hb
     rw [hun] at this; cases this
   have hgi := hgetL i hiL
   have huse : ∀ t ∈ (L.getD i default).uses, fr.get t = (st i).fr.get t := by
    intro t ht
    rw [hfr t, TF_text htr t i (by omega)]
    refine Eq.trans ?_ (GF_cut (show i ≤ L.length by omega))
    refine GF_congr ?_
    intro j hj hd
    have hd : (L.getD j default).dst = some t := by simpa [wF] using hd
    rcases Nat.lt_trichotomy j i with h1 | h1 | h1
    ·have : listed.getD j false = true := by
      rcases (hchk i hiL).2 j h1 with hb | hap
      ·exact hbefi j hb
      ·exact absurd ht ((apart_spec hap).1 t hd).1
     rw [this]; simp [h1]
    ·subst h1; rw [hun]; simp
    ·have : listed.getD j false = false := by
      rcases (hchk j hj).2 i h1 with hb | hap
      ·exact hafter j hj hb
      ·exact absurd ht ((apart_spec hap).2 t hd)
     rw [this]; simp; omega
   have hobj : ∀ o' ∈ TT E L id0 st i, Hc.obj o' = (st i).H.obj o' := by
    intro o' ho'
    rw [hHc o', HF_text htr o' i (by omega)]
    refine Eq.trans ?_ (GF_cut (show i ≤ L.length by omega))
    refine GF_congr ?_
    intro j hj hd
    have hd : o' ∈ WW E L id0 st j := by simpa using hd
    rcases Nat.lt_trichotomy j i with h1 | h1 | h1
    ·have : listed.getD j false = true := by
      rcases hchk2 i hiL j h1 with hb | hap
      ·exact hbefi j hb
      ·exact absurd ho' (hap.1 o' hd)
     rw [this]; simp [h1]
    ·subst h1; rw [hun]; simp
    ·have : listed.getD j false = false := by
      rcases hchk2 j hj i h1 with hb | hap
      ·exact hafter j hj hb
      ·exact absurd ho' (hap.2 o' hd)
     rw [this]; simp; omega
   have hset : ∀ j, (listed.setIfInBounds i true).getD j false = (listed.getD j false || j == i) := by
    intro j
    by_cases hji : j = i
    ·subst hji
     simp [Array.getD_eq_getD_getElem?, show j < listed.size by omega]
    ·rw [getD_set_ne false (fun e => hji e.symm)]
     simp [hji]
   have hsz' : (listed.setIfInBounds i true).size = L.length := by simp [hsz]
   have hcl' : ∀ j (h : j < ops.toList.length), (listed.setIfInBounds i true).getD j false = true → ∀ e ∈ ops.toList[j].after.toList, Region.binds .any e = true → (listed.setIfInBounds i true).getD e.on false = true := by
    intro j hj hl e hem hb
    rw [hset] at hl
    rw [hset]
    by_cases hji : j = i
    ·subst hji
     rw [hpre e (by rw [hoi] at hem; simpa using hem) hb]; rfl
    ·have : listed.getD j false = true := by simpa [hji] using hl
     rw [hcl j hj this e hem hb]; rfl
   have hcnt' : (List.range L.length).countP (fun j => !(listed.setIfInBounds i true).getD j false) ≤ fuel := by
    have := countP_lt (p := fun j => !listed.getD j false) (p' := fun j => !(listed.setIfInBounds i true).getD j false) (i := i) (l := List.range L.length) (fun j _ h => by
     simp only [hset] at h
     simp only [Bool.not_eq_true', Bool.or_eq_false_iff] at h ⊢
     exact h.1) (List.mem_range.2 hiL) (by simp only [hun]; rfl) (by simp only [hset]; simp)
    omega
   have hfr2 : ∀ v H', st (i + 1) = ⟨putD (st i).fr (L.getD i default).dst v, H'⟩ → ∀ t, (putD fr (L.getD i default).dst v).get t = TF L st (fun j => (listed.setIfInBounds i true).getD j false) L.length t := by
    intro v H' hs t
    have e1 : TF L st (fun j => (listed.setIfInBounds i true).getD j false) L.length t = TF L st (fun j => listed.getD j false || j == i) L.length t := GF_congr (fun j _ _ => hset j)
    rw [e1]
    unfold TF
    rw [GF_put hiL hun, get_putD]
    ·cases hw : wF L i t with
     | true =>
      have hd : (L.getD i default).dst = some t := by simpa [wF] using hw
      rw [if_pos hd, if_pos rfl, hs, hd]
      simp only [get_putD, if_true]
     | false =>
      have hd : (L.getD i default).dst ≠ some t := by simpa [wF] using hw
      rw [if_neg hd]
      simp only [Bool.false_eq_true, if_false]
      exact hfr t
    ·intro j h1 h2 h3 h4
     have h3 : (L.getD j default).dst = some t := by simpa [wF] using h3
     have h4 : (L.getD i default).dst = some t := by simpa [wF] using h4
     rcases (hchk j h2).2 i h1 with hb | hap
     ·exact hafter j h2 hb
     ·exact absurd h3 ((apart_spec hap).1 t h4).2
   have hH2 : ∀ Hn : Heap, (∀ o', o' ∈ WW E L id0 st i → Hn.obj o' = (st (i + 1)).H.obj o') → (∀ o', o' ∉ WW E L id0 st i → Hn.obj o' = Hc.obj o') → ∀ o', Hn.obj o' = HF E L id0 st (fun j => (listed.setIfInBounds i true).getD j false) L.length o' := by
    intro Hn hin hout o'
    have e1 : HF E L id0 st (fun j => (listed.setIfInBounds i true).getD j false) L.length o' = HF E L id0 st (fun j => listed.getD j false || j == i) L.length o' := GF_congr (fun j _ _ => hset j)
    rw [e1]
    unfold HF
    rw [GF_put hiL hun]
    ·by_cases hm : o' ∈ WW E L id0 st i
     ·rw [if_pos (by simpa using hm), hin o' hm]
     ·rw [if_neg (by simpa using hm), hout o' hm]
      exact hHc o'
    ·intro j h1 h2 h3 h4
     have h3 : o' ∈ WW E L id0 st j := by simpa using h3
     have h4 : o' ∈ WW E L id0 st i := by simpa using h4
     rcases hchk2 j h2 i h1 with hb | hap
     ·exact hafter j h2 hb
     ·exact absurd (hWT j o' h3) (hap.1 o' h4)
   have hstep := htr i hiL
   rw [← hgi] at hstep
   have hdf : isDefer o.op = false := hnof o (by rw [← hoi]; simp)
   have hnd : ∀ c, o.op ≠ .defer c := fun c h => by rw [h] at hdf; cases hdf
   obtain ⟨yb, hyb, hyok⟩ := hI.yok
   have hdo : (L.getD i default).dst = o.dst := by
    rw [hgi]
    simp only [hL, List.getElem_map, hoi]
    exact digO_dst _ _ hdf
   have hdig : (∃ x g, digOp P N o = some x ∧ digG ops o.guard = some g ∧ L.getD i default = ⟨o.dst, x, g⟩) ∨ L.getD i default = ⟨o.dst, .bad, none⟩ := by
    have : L.getD i default = digO P N ops o := by
     rw [hgi]
     simp only [hL, List.getElem_map, hoi]
    rw [this]
    unfold digO
    split
    ·exact .inl ⟨_, _, by assumption, by assumption, by simp [hdf]⟩
    ·exact .inr rfl
   have hoN : o.dst = none ∨ ∃ d, o.dst = some d ∧ d < nt := by
    cases hd : o.dst with
    | none => exact .inl rfl
    | some d => exact .inr ⟨d, rfl, hdst o (by rw [← hoi]; simp) d hd⟩
   have hinv : ∀ {v : PV} {H' : Heap} {u : Value} {w' : World} {S' : Stab} {β' : Pl}, Ext B w S w' S' → Swf w' S' → HOK C B w' S' β' H' → Later β β' → RelV C w' S' β' v u → Hc.length ≤ H'.length → Lb base β β' →
     Inv P N C E B base nt ⟨putD fr o.dst v, H'⟩ (a.put o.dst u) w' S' β' := by
    intro v H' u w' S' β' e1 e2 e3 e4 e5 e6 e7
    refine ⟨e2, hI.gok.ext e1, Nat.le_trans hI.hB e1.below.size, e3, ?_, ?_, ?_, ⟨yb, hyb, hyok.later e1 (e7.mono hyb)⟩, Nat.le_trans hI.base e6⟩
    ·rcases hoN with hd | ⟨d, hd, hdn⟩
     ·rw [hd]; exact hI.fok.ext e1 e4
     ·rw [hd]; exact (hI.fok.ext e1 e4).put (by rw [hI.size]; exact hdn) e5
    ·cases hd : o.dst with
     | none => exact hI.size
     | some d => simp [Act.put, hI.size]
    ·rcases hoN with hd | ⟨d, hd, hdn⟩
     ·rw [hd]; exact hI.defers.ext e1 e4
     ·rw [hd]
      refine (hI.defers.ext e1 e4).frame fun t ht => ?_
      have hlt := Nat.lt_of_lt_of_le hdn (Nat.le_trans hng ht)
      show (fr.set d v).get t = _
      rw [get_set, if_neg (fun h => Nat.lt_irrefl _ (h ▸ hlt))]
   rcases hdig with ⟨x, g, hx, hg, hLi⟩ | hbad
   ·unfold wpOpIn
    rw [ho]
    simp only
    rcases stepD_cases hstep with ⟨hgt, v, H', hev, hst'⟩ | ⟨hgf, hst'⟩
    ·
     have hgfr : gd (L.getD i default) fr = some true := by rw [gd_congr huse]; exact hgt
     rw [hLi] at hgfr
     have hw := wanted_gd (ops := ops) (o := o) hI.fok hg hgfr
     rw [if_pos hw]
     obtain ⟨c1, c2, c3⟩ := opD_congr (E := E) (H := Hc) (fr := fr) (fr' := (st i).fr) (id := idAt L id0 i) (x := (L.getD i default).op) (fun t ht => huse t (List.mem_append.2 (.inl ht)))
     have hlenc : Hc.length = (st i).H.length := by rw [hHl]; exact (hheap i (by omega)).symm
     have hadd1 : (L.getD i default).op.adds = true → β (idAt L id0 i) = .pend ∧ idAt L id0 i < Hc.length := by
      intro ha
      refine ⟨hpend i hiL ha hun, ?_⟩
      have := idAt_lt (id0 := id0) hiL ha (Nat.lt_add_one i)
      have h2 : idAt L id0 (i + 1) ≤ id0 + nadds L := by unfold idAt; have := nadds_take_le L (i + 1); omega
      omega
     obtain ⟨Hn, hev1, hin, hout, hFl⟩ : ∃ Hn : Heap, evalOp E (rd E fr) Hc (idAt L id0 i) (L.getD i default).op = some (v, Hn) ∧ (∀ o', o' ∈ WW E L id0 st i → Hn.obj o' = (st (i + 1)).H.obj o') ∧ (∀ o', o' ∉ WW E L id0 st i → Hn.obj o' = Hc.obj o') ∧ Hn.length = Hc.length := by
      cases hk : (L.getD i default).op.okD (rd E (st i).fr) with
      | false =>
       obtain ⟨he1, he2⟩ := barr_cases hk hev
       have hHc2 : Hc = (st i).H := by
        refine heap_ext hlenc fun o' ho' => hobj o' (List.mem_append.2 (.inr ?_))
        unfold touchS
        rw [gd_runs hgt, hk]
        exact List.mem_range.2 ho'
       subst hHc2
       refine ⟨H', by rw [(op_congr (E := E) (fr := fr) (fr' := (st i).fr) (id := idAt L id0 i) (x := (L.getD i default).op) (fun t ht => huse t (List.mem_append.2 (.inl ht)))).1]; exact he1, fun o' _ => by rw [hst'], fun o' ho' => ?_, he2⟩
       rw [← (step_heap htr hiL).2 o' ho', hst']
      | true =>
       obtain ⟨F, hF, hHF, hloc⟩ := opD_form hk hev
       have hfoot : ∀ o' ∈ footD (rd E (st i).fr) (L.getD i default).op, Hc.obj o' = (st i).H.obj o' := by
        intro o' ho'
        refine hobj o' (List.mem_append.2 (.inr ?_))
        unfold touchS
        rw [gd_runs hgt, hk]
        exact ho'
       have hev1 : evalOpD E (rd E fr) Hc (idAt L id0 i) (L.getD i default).op = some (v, F Hc) := by
        rw [c1]; exact hloc Hc hfoot
       have hWi : WW E L id0 st i = (if (L.getD i default).op.adds then [idAt L id0 i] else []) ++ (storeD (rd E (st i).fr) (L.getD i default).op ++ chg (st i).H (st (i + 1)).H (footD (rd E (st i).fr) (L.getD i default).op)) := by
        unfold WW writeS
        rw [gd_runs hgt, hk]; rfl
       refine ⟨F Hc, ?_, ?_, ?_, form_len hF Hc⟩
       ·have hkc : (L.getD i default).op.okD (rd E fr) = true := by
         rw [(op_congr (E := E) (H := Hc) (fr := fr) (fr' := (st i).fr) (id := idAt L id0 i) (x := (L.getD i default).op) (fun t ht => huse t (List.mem_append.2 (.inl ht)))).2.1]; exact hk
        unfold evalOpD at hev1
        rw [if_pos hkc] at hev1
        exact hev1
       ·intro o' ho'
        rw [hst', hHF]
        refine form_in hF hfoot hlenc ?_
        rw [hWi] at ho'
        rcases List.mem_append.1 ho' with h | h
        ·split at h
         ·rename_i ha; exact .inr ⟨ha, List.mem_singleton.1 h⟩
         ·cases h
        ·rcases List.mem_append.1 h with h | h
         ·exact .inl (storeD_foot h)
         ·exact .inl (chg_sub h)
       ·intro o' ho'
        have hno : ¬ ((L.getD i default).op.adds = true ∧ o' = idAt L id0 i) := by
         rintro ⟨ha, hb⟩
         rw [hWi, if_pos ha] at ho'
         exact ho' (List.mem_append.2 (.inl (by rw [hb]; exact List.mem_singleton.2 rfl)))
        by_cases hm : o' ∈ footD (rd E (st i).fr) (L.getD i default).op
        ·rw [hfoot o' hm, ← (step_heap htr hiL).2 o' ho', hst', hHF]
         exact form_in hF hfoot hlenc (.inl hm)
        ·exact form_out hF hm hno
     have hev2 : evalOp E (rd E fr) Hc (if x.adds then idAt L id0 i else Hc.length) x = some (v, Hn) := by
      have h3 := hev1
      rw [hLi] at h3
      cases ha : x.adds with
      | true => exact h3
      | false => rw [← h3]; exact evalOp_id ha _ _
     have hadd2 : x.adds = (L.getD i default).op.adds := by rw [hLi]
     refine op_sound hO hN hI.gok hI.swf hI.hB hI.hok hI.fok hnd hyok (Nat.le_trans hyb hI.base) hx ?_ hev2 ?_
     ·intro ha
      rw [if_pos ha]
      exact hadd1 (hadd2 ▸ ha)
     ·intro u w' S' β' e1 e2 e3 e4 e5 e6 e7
      have hlb1 : Lb base β β' := by
       intro o' ho'
       have hb : base ≤ Hc.length := hI.base
       refine ⟨e4 o', fun hp => e7 o' (Nat.lt_of_lt_of_le ho' hb) ?_ hp⟩
       split
       ·unfold idAt; omega
       ·omega
      refine ih (listed.setIfInBounds i true) (a.put o.dst u) w' S' β' (putD fr o.dst v) Hn hsz' hcl' hcnt' (hinv e1 e2 e3 e4 e5 e6 hlb1) ?_ (hH2 _ hin hout) (hFl.trans hHl) ?_ (he.trans e1) (hlb.trans hlb1)
      ·rw [← hdo]; exact hfr2 v H' hst'
      ·intro k hk hka hkl
       rw [hset] at hkl
       simp only [Bool.or_eq_false_iff, beq_eq_false_iff_ne] at hkl
       have h1 := hpend k hk hka hkl.1
       have h2 : idAt L id0 k < Hc.length := by
        have := idAt_lt (id0 := id0) hk hka (Nat.lt_add_one k)
        have h2 : idAt L id0 (k + 1) ≤ id0 + nadds L := by unfold idAt; have := nadds_take_le L (k + 1); omega
        omega
       refine e7 _ h2 ?_ h1
       split
       ·rename_i ha
        rw [hadd2] at ha
        rcases Nat.lt_or_gt_of_ne hkl.2 with hlt | hgt
        ·have := idAt_lt (id0 := id0) hk hka hlt; omega
        ·have := idAt_lt (id0 := id0) hiL ha hgt; omega
       ·omega
    ·
     have hgfr : gd (L.getD i default) fr = some false := by rw [gd_congr huse]; exact hgf
     rw [hLi] at hgfr
     have hw := wanted_gd (ops := ops) (o := o) hI.fok hg hgfr
     rw [hw]
     simp only [Bool.false_eq_true, if_false]
     refine ⟨fun _ _ => trivial, ?_⟩
     have hW0 : WW E L id0 st i = [] := by
      unfold WW writeS
      rw [gd_runs hgf]; rfl
     refine ih (listed.setIfInBounds i true) (a.put o.dst undef) w S β (putD fr o.dst (.t [])) Hc hsz' hcl' hcnt' (hinv (Ext.refl _ _ _) hI.swf hI.hok (Later.refl _) (.t [] [] rfl (fun j h => absurd h (Nat.not_lt_zero _))) (Nat.le_refl _) (Lb.refl _ _)) ?_ (hH2 _ (fun o' ho' => by rw [hW0] at ho'; cases ho') (fun _ _ => rfl)) hHl ?_ he hlb
     ·rw [← hdo]; exact hfr2 _ _ hst'
     ·intro k hk hka hkl
      rw [hset] at hkl
      simp only [Bool.or_eq_false_iff] at hkl
      exact hpend k hk hka hkl.1
   ·exfalso
    rw [hbad] at hstep
    simp [stepD, evalOpD, IOp.okD, IOp.barr] at hstep
theorem obj_grow (H : Heap) (n o : Nat) : Heap.obj (H ++ List.replicate n none) o = H.obj o := by
 rcases Nat.lt_or_ge o H.length with h | h
 ·unfold Heap.obj
  rw [List.getElem?_append_left h]
 ·unfold Heap.obj
  rw [List.getElem?_append_right h, List.getElem?_replicate, List.getElem?_eq_none h]
  by_cases hc : o - H.length < n
  ·rw [if_pos hc]
  ·rw [if_neg hc]
theorem regD_sound (hO : OrOK P C N E) (hN : NOK P N C E.G) (hng : nt ≤ gh) {id : Nat} {ops : Array Oper} {s s' : St} {a : Act} {w : World} {S : Stab} {β : Pl} {Q : Exit → Act → World → Prop} (hnof : ∀ o ∈ ops.toList, isDefer o.op = false) (hdst : ∀ o ∈ ops.toList, ∀ d, o.dst = some d → d < nt)
  (hok : drawOK ops.toList (ops.toList.map (digO P N ops)) = true) (he : evalOpsD E (ops.toList.map (digO P N ops)) (bef ops.toList []) [] s.H.length ⟨s.fr, s.H ++ List.replicate (nadds (ops.toList.map (digO P N ops))) none⟩ = some s') (hI : Inv P N C E B base nt s a w S β)
  (hQ : ∀ a' w' S' β', Inv P N C E B base nt s' a' w' S' β' → Ext B w S w' S' → Lb base β β' → Q .normal a' w') : (Code.region id ops true).wpIn (FR ro) nf P Q a w := by
 refine wpIn_region_any hN.mixed ?_
 obtain ⟨st, h0, h1, h2, h3⟩ := trace_exists _ _ _ _ _ _ he
 have hd : (w.drew : World) = { w with drawn := w.drawn + 1 } := rfl
 rw [← hd]
 have hlen0 : (st 0).H.length = s.H.length + nadds (ops.toList.map (digO P N ops)) := by rw [h0]; simp
 have hno : ∀ j, (Array.replicate ops.size false).getD j false = false := fun j => by
  simp [Array.getD_eq_getD_getElem?, Array.getElem?_replicate]
  split <;> rfl
 have hz : ∀ {α : Type} (w : Nat → Nat → Bool) (v : Nat → Nat → α) (z : Nat → α) (m t : Nat), GF w v z (fun j => (Array.replicate ops.size false).getD j false) m t = z t := by
  intro α w v z m t
  induction m with
  | zero => rfl
  | succ m ih =>
   show (if (Array.replicate ops.size false).getD m false && w m t then _ else _) = _
   rw [hno m]
   exact ih
 obtain ⟨yb, hyb, hyok⟩ := hI.yok
 have hg := hok_grow hI.hok (nadds (ops.toList.map (digO P N ops)))
 refine draw_sim (B := B) (base := base) (nt := nt) (st := st) (id0 := s.H.length) (w0 := w) (S0 := S) (β0 := β) hO hN hng hnof rfl hdst hok h2 (by simpa using h3) ?_ hI.base ?_ ops.size (Array.replicate ops.size false) a w.drew S β s.fr (s.H ++ List.replicate (nadds (ops.toList.map (digO P N ops))) none) (by simp) ?_ ?_ ?_ ?_ ?_ ?_ ?_ (drew_ext (B := B)) (Lb.refl _ _)
 ·rw [hlen0]; exact Nat.le_refl _
 ·intro a' w' S' β' hI' e1 e2
  rw [h1] at hI'
  exact hQ a' w' S' β' hI' e1 e2
 ·intro j hj hl
  rw [hno] at hl; cases hl
 ·refine Nat.le_trans (List.countP_le_length) ?_
  simp
 ·refine ⟨hI.swf.ext (drew_ext (B := B)), hI.gok.ext (drew_ext (B := B)), hI.hB, hg.drew, hI.fok.ext (drew_ext (B := B)) (Later.refl _), hI.size, hI.defers.ext (drew_ext (B := B)) (Later.refl _), ⟨yb, hyb, hyok.later (drew_ext (B := B)) (Lb.refl _ _)⟩, ?_⟩
  have := hI.base
  simp only [List.length_append]; omega
 ·intro t
  unfold TF
  rw [hz, h0]
 ·intro o
  unfold HF
  rw [hz, h0]
 ·rw [h0]
 ·intro k hk _ _
  refine hI.hok.out _ ?_
  unfold idAt; omega
end
end Go.Sim
end
section
open Go.RowKit
namespace Go.Sim
theorem leavesD {P : Program} {n : Nat} {fn : Func} {tmps : Array Value} {R : Ending → World → Prop} : ∀ (ds : List Deferred) (u : FrameMode) (w : World) (fr : Frame) (cs : List Frame), fr.mode = u → fr.defers = ds → fr.tmps = tmps → P.funcs[fr.fn]? = some fn → fr.kind = .deferred →
  LeavesInM Fence.wide n P fn tmps R ds u w → ∃ e w' fr', R e w' ∧ Comes P (lone fr cs w) (lone fr' cs w') e ∧ fr'.fn = fr.fn ∧ fr'.kind = .deferred ∧ fr'.going P w' e := by
 intro ds
 induction ds with
 | nil =>
  intro u w fr cs hu hd ht hf hk h
  cases u with
  | run => exact h.elim
  | returning =>
   obtain ⟨v, h1, h2⟩ := h
   exact ⟨.returned v, w, fr, h2, Steps.refl _ _, rfl, hk, hu, hd, fn, hf, ht ▸ h1⟩
  | panicking c => exact ⟨.panicked c, w, fr, h, Steps.refl _ _, rfl, hk, hu, hd, fn, hf⟩
 | cons d ds ih =>
  intro u w fr cs hu hd ht hf hk h
  obtain ⟨hrun, h⟩ := h
  subst hu
  rcases h with ⟨r, w1, h1, h2, h3⟩ | ⟨-, fv, cap, f, args, h1, h2, -, h3⟩
  ·have hs := step_collected (P := P) (cs := cs) hrun hd h1 h2
   obtain ⟨e, w2, fr2, q1, q2, q3, q4, q5⟩ := ih fr.mode w1 { fr with defers := [] ++ ds } cs rfl rfl ht hf hk h3
   exact ⟨e, w2, fr2, q1, .of_steps (.one hs) q2, q3, q4, q5⟩
  ·have hs := step_defer (P := P) (cs := cs) hrun hd h1 h2
   obtain ⟨e, u1, w1, fr1, r1, r2, r3, -, r5⟩ := h3.2 { fr with defers := ds } cs rfl (room_wide _)
   have r2 := comesIn_wide.1 r2
   cases e with
   | outgrown => exact ⟨.outgrown, w1, fr, r1, Outgrown.of_steps (.one hs) r2, rfl, hk, trivial⟩
   | returned v =>
    have h4 := step_going_returned (c := { { fr with defers := ds } with mode := u1 }) (cs := cs) r3 r5
    obtain ⟨e, w2, fr2, q1, q2, q3, q4, q5⟩ := ih (settle u1) w1 { { { fr with defers := ds } with mode := u1 } with mode := settle u1 } cs rfl rfl ht hf hk r1
    exact ⟨e, w2, fr2, q1, .of_steps (.head hs (Steps.trans r2 (.one h4))) q2, q3, q4, q5⟩
   | panicked ch =>
    have h4 := step_going_panicked (c := { { fr with defers := ds } with mode := u1 }) (cs := cs) r5
    obtain ⟨e, w2, fr2, q1, q2, q3, q4, q5⟩ := ih (raised u1 ch) w1 { { { fr with defers := ds } with mode := u1 } with mode := raised u1 ch } cs rfl rfl ht hf hk r1
    exact ⟨e, w2, fr2, q1, .of_steps (.head hs (Steps.trans r2 (.one h4))) q2, q3, q4, q5⟩
theorem callsD_marks {P : Program} {n : Nat} {f : FuncId} {fn : Func} {c : Code} {args : Array Value} {u : FrameMode} {w : World} {R : Ending → World → Prop} (hf : P.funcs[f]? = some fn) (hb : fn.body = some c)
  (h : c.wpIn Fence.wide n P (bodyPostM Fence.wide n P fn R) { tmps := args ++ Array.replicate (fn.ntmps - args.size) undef, defers := [] } w) : CallsDIn Fence.wide n P f args u w fun e u' w' => u' = u ∧ R e w' := by
 refine ⟨trivial, fun c0 cs hu _ => ?_⟩
 have hc : ({ c0 with mode := u } : Frame) = c0 := by subst hu; rfl
 let b : Frame := { (default : Frame) with fn := f, kind := .deferred, roundOf := none }
 have henter : Frame.enter P f args .deferred = b.atR { tmps := args ++ Array.replicate (fn.ntmps - args.size) undef, defers := [] } [.code c] := by
  simp [Frame.enter, Frame.atR, hf, hb, b]
 obtain ⟨e, a', w', hq, harr⟩ := h b [] (c0 :: cs) rfl trivial (room_wide _)
 rw [← henter] at harr
 have fin : ∀ (m : FrameMode) (fr : Frame), fr.mode = m → fr.defers = a'.defers → fr.tmps = a'.tmps → fr.fn = f → fr.kind = .deferred → Steps P (lone (Frame.enter P f args .deferred) (c0 :: cs) w) (lone fr (c0 :: cs) w') → LeavesInM Fence.wide n P fn a'.tmps R a'.defers m w' →
   ∃ e u' w'' fr', (u' = u ∧ R e w'') ∧ ComesIn (Machine.fenced P Fence.wide) P (lone (Frame.enter P f args .deferred) (c0 :: cs) w) (lone fr' ({ c0 with mode := u' } :: cs) w'') e ∧ fr'.kind = .deferred ∧ fr'.fn = f ∧ fr'.going P w'' e := by
  intro m fr g1 g2 g3 g4 g5 hs hl
  obtain ⟨e', w2, fr', q1, q2, q3, q4, q5⟩ := leavesD a'.defers m w' fr (c0 :: cs) g1 g2 g3 (by rw [g4]; exact hf) g5 hl
  exact ⟨e', u, w2, fr', ⟨rfl, q1⟩, (by rw [hc]; exact comesIn_wide.2 (.of_steps hs q2)), q4, q3.trans g4, q5⟩
 cases e with
 | normal => exact fin .returning { b.atR a' [] with mode := .returning } rfl rfl rfl rfl rfl (Steps.trans (stepsIn_wide.1 harr) (.one (stepR_end rfl))) hq
 | ret =>
  obtain ⟨todo, hs⟩ := harr.1 rfl
  exact fin .returning { b.atR a' todo with mode := .returning } rfl rfl rfl rfl rfl (stepsIn_wide.1 hs) hq
 | panic ch =>
  obtain ⟨todo, hs⟩ := harr
  exact fin (.panicking ch) { b.atR a' todo with mode := .panicking ch } rfl rfl rfl rfl rfl (stepsIn_wide.1 hs) hq
 | exit id => exact hq.elim
 | goto l => exact hq.elim
 | outgrown =>
  refine ⟨.outgrown, u, w', b, ⟨rfl, hq⟩, ?_, rfl, rfl, trivial⟩
  exact harr.resolve_left (by simp [b])
section
variable {P : Program} {N : Names} {C : Cx} {w : World} {S : Stab} {β : Pl} {B : Nat} {H : Heap} {a : Act} {E : Env}
theorem hok_shut (hH : HOK C B w S β H) (hS : Swf w S) {o blk : Nat} {x : Sp} (hb : β o = .sp blk x) (ob : Go.Obj) :
  Ext B w S (w.putObj blk ob) S ∧ HOK C B (w.putObj blk ob) S (upd β o .dead) (H.put o none) ∧ Later β (upd β o .dead) := by
 obtain ⟨g1, y, g2, g3⟩ := hH.sp o blk x hb
 obtain ⟨o0, g4, g5⟩ := g3.obj
 have hext := put_ext hS g1 g4 g5 ob
 obtain ⟨k1, k2⟩ := hok_kill hH o (obj_lt g2)
 refine ⟨hext, k1.ext hext ?_ (fun _ _ _ _ _ _ h => h) ?_, k2 (by rw [hb]; simp)⟩
 ·intro o' blk' base k h
  obtain ⟨-, x0, c0, e0, -, -, h4, -⟩ := k1.live o' blk' base k h
  refine World.putObj_heap_other (fun hq => ?_)
  subst hq
  rw [g4] at h4; cases h4
  exact g5 _ _ _ rfl
 ·intro o' blk' x' h
  refine World.putObj_heap_other (fun hq => ?_)
  subst hq
  by_cases ho : o' = o
  ·subst ho; rw [upd_same] at h; cases h
  ·rw [upd_ne ho] at h
   exact ho (hH.spi _ _ _ _ _ h hb)
theorem reach_ok (H : Heap) (base : Nat) : ∀ (n : Nat) (acc todo : List Nat), acc.Nodup → (∀ o ∈ acc, base ≤ o) → (reach H base n acc todo).Nodup ∧ ∀ o ∈ reach H base n acc todo, base ≤ o
 | 0, acc, _, h1, h2 => ⟨h1, h2⟩
 | _ + 1, acc, [], h1, h2 => ⟨h1, h2⟩
 | n + 1, acc, o :: todo, h1, h2 => by
  simp only [reach]
  split
  ·exact reach_ok H base n acc todo h1 h2
  ·split
   ·exact reach_ok H base n acc todo h1 h2
   ·rename_i hlt hc
    refine reach_ok H base n _ _ ?_ ?_
    ·rw [List.nodup_append]
     refine ⟨h1, by simp, ?_⟩
     intro x hx y hy
     simp at hy
     subst hy
     rintro rfl
     simp at hc
     exact hc hx
    ·intro x hx
     rcases List.mem_append.1 hx with hx | hx
     ·exact h2 x hx
     ·simp at hx; omega
def gcβ (β : Pl) (base : Nat) (ids : List Nat) : Pl := fun n => if n < base then β n else match ids[n - base]? with | some o => β o | none => .pend
theorem place_β {base : Nat} {ids : List Nat} {o o' : Nat} (h : place base ids o = some o') : gcβ β base ids o' = β o := by
 by_cases hlt : o < base
 ·simp only [place, hlt, if_true, Option.some.injEq] at h
  subst h
  simp [gcβ, hlt]
 ·simp only [place, hlt, if_false, Option.map_eq_some_iff] at h
  obtain ⟨i, hi, rfl⟩ := h
  have : ids[i]? = some o := by
   rw [List.idxOf?_eq_some_iff] at hi
   obtain ⟨h1, h2, -⟩ := hi
   rw [List.getElem?_eq_getElem h1]
   simpa using h2
  have e : ¬ (base + i < base) := by omega
  simp only [gcβ, e, if_false, Nat.add_sub_cancel_left, this]
theorem PV.renL_length (ρ : Nat → Option Nat) : ∀ cs : List PV, (PV.renL ρ cs).length = cs.length
 | [] => rfl
 | v :: vs => by simp [PV.renL, PV.renL_length ρ vs]
theorem PV.renL_get (ρ : Nat → Option Nat) : ∀ (cs : List PV) (j : Nat) (hj : j < cs.length) (hj' : j < (PV.renL ρ cs).length), (PV.renL ρ cs)[j] = (cs[j]).ren ρ
 | [], j, hj, _ => absurd hj (Nat.not_lt_zero _)
 | v :: vs, 0, _, _ => rfl
 | v :: vs, j + 1, hj, hj' => by
  simp only [PV.renL, List.getElem_cons_succ]
  exact PV.renL_get ρ vs j _ _
theorem ren_rel {β' : Pl} {ρ : Nat → Option Nat} (hρ : ∀ o o', ρ o = some o' → β' o' = β o) {x : PV} {v : Value} (h : RelV C w S β x v) : RelV C w S β' (x.ren ρ) v := by
 induction h with
 | u v => exact .u v
 | d x v h => exact .d x v h
 | a cs vs h1 h2 _ ih =>
  refine .a _ vs (by rw [PV.renL_length]; exact h1) h2 ?_
  intro j hj hj'
  rw [PV.renL_length] at hj
  rw [PV.renL_get ρ cs j hj]
  exact ih j hj hj'
 | t cs vs h1 _ ih =>
  refine .t _ vs (by rw [PV.renL_length]; exact h1) ?_
  intro j hj hj'
  rw [PV.renL_length] at hj
  rw [PV.renL_get ρ cs j hj]
  exact ih j hj hj'
 | r o k off len t v h0 h =>
  simp only [PV.ren]
  cases ho : ρ o with
  | none => exact .u v
  | some o' =>
   refine .r _ _ _ _ _ _ h0 ?_
   unfold RelRf at *
   rw [hρ o o' ho]; exact h
 | p o i c v h0 h =>
  simp only [PV.ren]
  cases ho : ρ o with
  | none => exact .u v
  | some o' =>
   refine .p _ _ _ _ h0 ?_
   unfold RelPt at *
   rw [hρ o o' ho]; exact h
 | q x k c blk off f h1 h2 => exact .q x k c blk off f h1 h2
 | f n cs vs h1 _ ih =>
  refine .f n _ vs (by rw [PV.renL_length]; exact h1) ?_
  intro j hj hj'
  rw [PV.renL_length] at hj
  rw [PV.renL_get ρ cs j hj]
  exact ih j hj hj'
 | h o v h0 h =>
  simp only [PV.ren]
  cases ho : ρ o with
  | none => exact .u v
  | some o' =>
   refine .h _ _ h0 ?_
   unfold RelH at *
   rw [hρ o o' ho]; exact h
 | g x v => exact .g _ v
 | m n cs vs h1 _ ih =>
  refine .m n _ vs (by rw [PV.renL_length]; exact h1) ?_
  intro j hj hj'
  rw [PV.renL_length] at hj
  rw [PV.renL_get ρ cs j hj]
  exact ih j hj hj'
 | w t x v _ ih => exact .w t _ v ih
theorem gcH_length {ρ : Nat → Option Nat} {base : Nat} {ids : List Nat} (hb : base ≤ H.length) : (gcH ρ H base ids).length = base + ids.length := by
 simp [gcH]; omega
theorem gcH_obj {ρ : Nat → Option Nat} {base : Nat} {ids : List Nat} (hb : base ≤ H.length) (n : Nat) : Heap.obj (gcH ρ H base ids) n = if n < base then (H.obj n).map (·.ren ρ) else match ids[n - base]? with | some o => (H.obj o).map (·.ren ρ) | none => none := by
 show (match (gcH ρ H base ids)[n]? with | some x => x | none => none) = _
 by_cases hn : n < base
 ·have e : (gcH ρ H base ids)[n]? = (H[n]?).map (·.map (·.ren ρ)) := by
   unfold gcH
   rw [List.getElem?_append_left (by simp; omega), List.getElem?_map, List.getElem?_take, if_pos hn]
  rw [e, if_pos hn]
  unfold Heap.obj
  cases H[n]? with
  | none => rfl
  | some x => cases x <;> rfl
 ·have e : (gcH ρ H base ids)[n]? = (ids[n - base]?).map fun o => (H.obj o).map (·.ren ρ) := by
   unfold gcH
   have hl : (List.map (Option.map (·.ren ρ)) (List.take base H)).length = base := by simp; omega
   rw [List.getElem?_append_right (by rw [hl]; omega), hl, List.getElem?_map]
  rw [e, if_neg hn]
  cases ids[n - base]? <;> rfl
theorem OCells.ren {β' : Pl} {ρ : Nat → Option Nat} (hρ : ∀ o o', ρ o = some o' → β' o' = β o) {cells : Array Value} {blk base : Nat} {x : Obj} (h : OCells C w S β cells blk base x) : OCells C w S β' cells blk base (x.ren ρ) := by
 cases x with
 | box k v =>
  obtain ⟨h0, f, h1, h2, h3⟩ := h
  exact ⟨h0, f, h1, ren_rel hρ h2, h3⟩
 | sl k ro es => exact h
 | mp es => exact h
 | si s p => exact h
 | lp st j => exact h
 | df => exact h
theorem Obj.ren_shape (ρ : Nat → Option Nat) (x : Obj) : (x.ren ρ).shape = x.shape := by cases x <;> rfl
theorem SpOK.ren {blk : Nat} {x : Sp} {y : Obj} (h : SpOK w S blk x y) (ρ : Nat → Option Nat) : SpOK w S blk x (y.ren ρ) := by
 cases y with
 | box k v => cases x <;> exact h
 | _ => exact h
theorem hok_gc (hH : HOK C B w S β H) {base : Nat} (hb : base ≤ H.length) {ids : List Nat} (hn : ids.Nodup) (hi : ∀ o ∈ ids, base ≤ o) : HOK C B w S (gcβ β base ids) (gcH (place base ids) H base ids) := by
 have hρ : ∀ o o', place base ids o = some o' → gcβ β base ids o' = β o := fun o o' h => place_β h
 have from_ : ∀ n, gcβ β base ids n ≠ .pend → ∃ o, gcβ β base ids n = β o ∧ Heap.obj (gcH (place base ids) H base ids) n = (H.obj o).map (·.ren (place base ids)) ∧ ((n < base ∧ o = n) ∨ (base ≤ n ∧ ids[n - base]? = some o)) := by
  intro n h
  by_cases hlt : n < base
  ·exact ⟨n, by simp [gcβ, hlt], by rw [gcH_obj hb, if_pos hlt], .inl ⟨hlt, rfl⟩⟩
  ·cases ho : ids[n - base]? with
   | none => simp [gcβ, hlt, ho] at h
   | some o => exact ⟨o, by simp [gcβ, hlt, ho], by rw [gcH_obj hb, if_neg hlt, ho], .inr ⟨by omega, rfl⟩⟩
 have same : ∀ n n' o o', o = o' → ((n < base ∧ o = n) ∨ (base ≤ n ∧ ids[n - base]? = some o)) → ((n' < base ∧ o' = n') ∨ (base ≤ n' ∧ ids[n' - base]? = some o')) → n = n' := by
  intro n n' o o' hoo h3 h3'
  subst hoo
  rcases h3 with ⟨q1, rfl⟩ | ⟨q1, q2⟩
  ·rcases h3' with ⟨p1, rfl⟩ | ⟨p1, p2⟩
   ·rfl
   ·have := hi _ (List.mem_of_getElem? p2); omega
  ·rcases h3' with ⟨p1, rfl⟩ | ⟨p1, p2⟩
   ·have := hi _ (List.mem_of_getElem? q2); omega
   ·obtain ⟨i1, i2⟩ := List.getElem?_eq_some_iff.1 q2
    obtain ⟨j1, j2⟩ := List.getElem?_eq_some_iff.1 p2
    have hpw := List.pairwise_iff_getElem.1 hn
    rcases Nat.lt_trichotomy (n - base) (n' - base) with hlt | heq | hgt
    ·exact absurd (i2.trans j2.symm) (hpw _ _ i1 j1 hlt)
    ·omega
    ·exact absurd (j2.trans i2.symm) (hpw _ _ j1 i1 hgt)
 refine ⟨?_, ?_, ?_, ?_, ?_, ?_, ?_⟩
 ·intro n blk b k h
  obtain ⟨o, h1, h2, -⟩ := from_ n (by rw [h]; simp)
  rw [h1] at h
  obtain ⟨a1, x, cells, e, a2, a3, a4, a5⟩ := hH.live o blk b k h
  exact ⟨a1, x.ren (place base ids), cells, e, by rw [h2, a2]; rfl, by rw [Obj.ren_shape]; exact a3, a4, a5.ren hρ⟩
 ·intro n h
  obtain ⟨o, h1, h2, -⟩ := from_ n (by rw [h]; simp)
  rw [h1] at h
  rw [h2, hH.dead o h]; rfl
 ·intro n h
  obtain ⟨o, h1, h2, -⟩ := from_ n (by rw [h]; simp)
  rw [h1] at h
  obtain ⟨k, ro, h3⟩ := hH.virt o h
  exact ⟨k, ro, by rw [h2, h3]; rfl⟩
 ·intro n n' blk b k b' k' h h'
  obtain ⟨o, h1, -, h3⟩ := from_ n (by rw [h]; simp)
  obtain ⟨o', h1', -, h3'⟩ := from_ n' (by rw [h']; simp)
  rw [h1] at h
  rw [h1'] at h'
  exact same n n' o o' (hH.inj o o' blk b k b' k' h h') h3 h3'
 ·intro n h
  rw [gcH_length hb] at h
  have h1 : ¬ n < base := by omega
  have h2 : ids[n - base]? = none := by rw [List.getElem?_eq_none_iff]; omega
  simp [gcβ, h1, h2]
 ·intro n blk x h
  obtain ⟨o, h1, h2, -⟩ := from_ n (by rw [h]; simp)
  rw [h1] at h
  obtain ⟨a1, y, a2, a3⟩ := hH.sp o blk x h
  exact ⟨a1, y.ren (place base ids), by rw [h2, a2]; rfl, a3.ren _⟩
 ·intro n n' blk x x' h h'
  obtain ⟨o, h1, -, h3⟩ := from_ n (by rw [h]; simp)
  obtain ⟨o', h1', -, h3'⟩ := from_ n' (by rw [h']; simp)
  rw [h1] at h
  rw [h1'] at h'
  exact same n n' o o' (hH.spi o o' blk x x' h h') h3 h3'
theorem lb_gc (base : Nat) (ids : List Nat) : Lb base β (gcβ β base ids) := fun o ho => by
 have : gcβ β base ids o = β o := by simp [gcβ, ho]
 exact ⟨.inl this, fun h => this.trans h⟩
theorem PV.ren_ne {ρ : Nat → Option Nat} {x : PV} (h : x.ren ρ ≠ .u) : x ≠ .u := fun hx => h (by subst hx; rfl)
theorem DRel.ren {β' : Pl} {ρ : Nat → Option Nat} (hρ : ∀ o o', ρ o = some o' → β' o' = β o) {x : PV} {d : Deferred} (h : DRel C w S β x d) : DRel C w S β' (x.ren ρ) d := by
 unfold DRel at h
 split at h
 ·rename_i o
  obtain ⟨r, h1, h2⟩ := h
  simp only [PV.ren]
  cases ho : ρ o with
  | none => trivial
  | some o' => exact ⟨r, h1, by rw [hρ o o' ho]; exact h2⟩
 ·rename_i n caps
  obtain ⟨us, h1, h2, h3⟩ := h
  refine ⟨us, h1, by rw [PV.renL_length]; exact h2, fun j hj hj' => ?_⟩
  rw [PV.renL_get ρ caps j (by rw [PV.renL_length] at hj; exact hj)]
  exact ren_rel hρ (h3 j _ hj')
 ·trivial
 ·exact h.elim
theorem DfRel.ren {β' : Pl} {ρ : Nat → Option Nat} (hρ : ∀ o o', ρ o = some o' → β' o' = β o) {fr : Fr} {ds : List Deferred} (h : DfRel C w S β fr ds) : DfRel C w S β' (fr.ren ρ) ds := by
 obtain ⟨sl, h1, h2, h3, h4, h5⟩ := h
 refine ⟨sl, h1, h2, fun t ht hn => h3 t ht (PV.ren_ne (by rw [get_ren] at hn; exact hn)), h4, fun j hj hj' => ?_⟩
 rw [get_ren]
 exact (h5 j hj hj').ren hρ
theorem gc_inv {base nt : Nat} {s : St} (hI : Inv P N C E B base nt s a w S β) (live : List Nat) : ∃ β', Inv P N C E B base nt (gc live base s) a w S β' ∧ Lb base β β' := by
 obtain ⟨h1, h2⟩ := reach_ok s.H base 1000 [] (frRefs (Fr.keep live s.fr) ++ heapRefs (s.H.take base)) (by simp) (by simp)
 obtain ⟨yb, hyb, hyok⟩ := hI.yok
 refine ⟨_, ⟨hI.swf, hI.gok, hI.hB, hok_gc hI.hok hI.base h1 h2, ?_, hI.size, ?_, ⟨yb, hyb, hyok.later (Ext.refl B w S) ((lb_gc _ _).mono hyb)⟩, ?_⟩, lb_gc _ _⟩
 ·intro t
  simp only [gc]
  rw [get_ren]
  refine ren_rel (fun o o' h => place_β h) ?_
  rcases get_keep live t s.fr with h | h
  ·rw [h]; exact hI.fok t
  ·rw [h]; exact .u _
 ·simp only [gc]
  exact (hI.defers.frame (fr' := Fr.keep live s.fr) (fun t ht => get_keep_gh live ht s.fr)).ren (fun o o' h => place_β h)
 ·simp only [gc]
  rw [gcH_length hI.base]; omega
theorem gcV_hok {v : PV} {u : Value} (hH : HOK C B w S β H) (hv : RelV C w S β v u) {base : Nat} (hb : base ≤ H.length) : ∃ β', HOK C B w S β' (gcV base v H).2 ∧ RelV C w S β' (gcV base v H).1 u ∧ Lb base β β' ∧ base ≤ (gcV base v H).2.length := by
 obtain ⟨h1, h2⟩ := reach_ok H base 1000 [] (v.refs ++ heapRefs (H.take base)) (by simp) (by simp)
 refine ⟨_, hok_gc hH hb h1 h2, ren_rel (fun o o' h => place_β h) hv, lb_gc _ _, ?_⟩
 simp only [gcV]
 rw [gcH_length hb]; omega
end
end Go.Sim
end
section
open Go.RowKit
namespace Go.Sim
def dstB (nt : Nat) (inr : Bool) (o : IOper) : Bool := match o.op with
 | .dfr _ _ => !inr
 | _ => match o.dst with | some d => decide (d < nt) | none => true
def dstsB (nt : Nat) (inr : Bool) : PC → Bool
 | .reg ops _ => ops.all (dstB nt inr)
 | .regD ops _ _ => ops.all (dstB nt inr)
 | .seq x y => dstsB nt inr x && dstsB nt inr y
 | .cond _ x y => dstsB nt inr x && dstsB nt inr y
 | .block _ x => dstsB nt inr x
 | .loop _ x => dstsB nt inr x
 | .rng _ g ps _ a x => !inr && Nat.ble gh g && ps.all (fun p => decide (p < nt)) && dstsB nt true a && dstsB nt true x
 | _ => true
def exOf : Ex → Exit
 | .norm => .normal
 | .exit id => .exit id
 | .ret => .ret
theorem get_only_gh (l : List Nat) {t : Nat} (h : gh ≤ t) : ∀ fr : Fr, (fr.only l).get t = .u
 | [] => rfl
 | (j, x) :: r => by
  simp only [Fr.only]
  split
  ·rename_i hc
   simp only [Bool.and_eq_true, Nat.blt_eq] at hc
   simp only [Fr.get]
   rw [if_neg (by omega)]
   exact get_only_gh l h r
  ·exact get_only_gh l h r
theorem get_only_eq (l : List Nat) (t : Nat) : ∀ fr : Fr, (fr.only l).get t = if l.contains t && Nat.blt t gh then fr.get t else .u
 | [] => by simp [Fr.only, Fr.get]
 | (j, x) :: r => by
  simp only [Fr.only]
  split
  ·rename_i hc
   simp only [Fr.get]
   split
   ·rename_i hj; subst hj; rw [if_pos hc]
   ·exact get_only_eq l t r
  ·rename_i hc
   rw [get_only_eq l t r]
   by_cases hj : j = t
   ·subst hj; rw [if_neg hc, if_neg hc]
   ·simp [Fr.get, hj]
theorem get_only (l : List Nat) (t : Nat) (fr : Fr) : (fr.only l).get t = fr.get t ∨ (fr.only l).get t = .u := by
 rw [get_only_eq]; split
 ·exact .inl rfl
 ·exact .inr rfl
theorem get_setA_ne {t : Nat} : ∀ (ps : List Nat) (vs : List PV) (fr : Fr), t ∉ ps → (setA fr ps vs).get t = fr.get t
 | [], vs, fr, _ => by cases vs <;> rfl
 | p :: ps, [], fr, _ => rfl
 | p :: ps, v :: vs, fr, h => by
  simp only [setA]
  rw [get_setA_ne ps vs _ (fun hm => h (List.mem_cons_of_mem _ hm)), get_set, if_neg (fun hq => h (by rw [hq]; exact List.mem_cons_self ..))]
section
variable {P : Program} {N : Names} {C : Cx} {w : World} {S : Stab} {β : Pl} {B : Nat} {H : Heap} {a : Act} {E : Env}
theorem fok_setA : ∀ (ps : List Nat) (args : List PV) (us : List Value) (fr : Fr) (tmps : Array Value), args.length = us.length → (∀ p ∈ ps, p < tmps.size) → (∀ t, RelV C w S β (fr.get t) (tmps.getD t undef)) →
  (∀ j (h : j < args.length) (h' : j < us.length), RelV C w S β args[j] us[j]) → ∀ t, RelV C w S β ((setA fr ps args).get t) (((ps.zip us).foldl (fun tmps (x : Nat × Value) => tmps.setIfInBounds x.1 x.2) tmps).getD t undef)
 | [], args, us, fr, tmps, _, _, hf, _, t => by cases args <;> exact hf t
 | p :: ps, [], us, fr, tmps, hl, _, hf, _, t => by
  have : us = [] := by cases us with | nil => rfl | cons _ _ => simp at hl
  subst this; exact hf t
 | p :: ps, v :: args, [], fr, tmps, hl, _, _, _, t => by simp at hl
 | p :: ps, v :: args, u :: us, fr, tmps, hl, hp, hf, hr, t => by
  simp only [setA, List.zip_cons_cons, List.foldl_cons]
  have hsz : p < tmps.size := hp p (List.mem_cons_self ..)
  refine fok_setA ps args us _ _ (by simpa using hl) (fun q hq => by simpa using hp q (List.mem_cons_of_mem _ hq)) ?_ (fun j hj hj' => hr (j + 1) (by simpa using hj) (by simpa using hj')) t
  intro t'
  rw [get_set]
  split
  ·rename_i ht; subst ht
   have := hr 0 (by simp) (by simp)
   simpa [Array.getD_eq_getD_getElem?, hsz] using this
  ·rename_i ht
   have := hf t'
   simp only [Array.getD_eq_getD_getElem?] at this ⊢
   rw [Array.getElem?_setIfInBounds_ne (fun e => ht e.symm)]
   exact this
theorem setA_size : ∀ (l : List (Nat × Value)) (tmps : Array Value), (l.foldl (fun tmps (x : Nat × Value) => tmps.setIfInBounds x.1 x.2) tmps).size = tmps.size
 | [], _ => rfl
 | x :: l, tmps => by rw [List.foldl_cons, setA_size l]; simp
theorem obj_two (H : Heap) (x y : Option Obj) : (Heap.put (Heap.put (H ++ List.replicate 2 none) (H.length + 1) y) H.length x) = H ++ [x, y] := by
 simp [Heap.put, List.replicate]
theorem zip_fold (ps : Array Tmp) (us : List Value) (tmps : Array Value) : (ps.zip us.toArray).foldl (fun tmps (t, a) => tmps.setIfInBounds t a) tmps = (ps.toList.zip us).foldl (fun tmps (x : Nat × Value) => tmps.setIfInBounds x.1 x.2) tmps := by
 rw [← Array.foldl_toList]
 simp only [Array.toList_zip]
theorem later_of_lb {b : Nat} {β' : Pl} (h : Lb b β β') (ho : ∀ o, b ≤ o → β o = .pend) : Later β β' := fun o => by
 rcases Nat.lt_or_ge o b with h1 | h1
 ·exact (h o h1).1
 ·exact .inr (.inr (ho o h1))
def CS (P : Program) (N : Names) (C : Cx) (E : Env) (B nt n : Nat) (pc : PC) (c : Code) : Prop :=
 ∀ (base : Nat) (ro : Option Nat) (nf : Nat), dstsB nt ro.isSome pc = true → ∀ (s s' : St) (ex : Ex) (a : Act) (w : World) (S : Stab) (β : Pl) (Q : Exit → Act → World → Prop),
  evalC E (lpN n) base pc s = some (ex, s') → Inv P N C E B base nt s a w S β → (∀ a' w' S' β', Inv P N C E B base nt s' a' w' S' β' → Ext B w S w' S' → Lb base β β' → Q (exOf ex) a' w') → c.wpIn (FR ro) nf P Q a w
theorem sp_stay {β' : Pl} {b o blk : Nat} {x : Sp} {y : Obj} {H' : Heap} {w' : World} {S' : Stab} (hb : β o = .sp blk x) (hl : β' o = β o ∨ β' o = .dead ∨ β o = .pend) (hH : HOK C b w' S' β' H') (hy : H'.obj o = some y) : β' o = .sp blk x ∧ SpOK w' S' blk x y := by
 have h1 : β' o = .sp blk x := by
  rcases hl with h | h | h
  ·rw [h]; exact hb
  ·rw [hH.dead o h] at hy; cases hy
  ·rw [hb] at h; cases h
 obtain ⟨-, y', h2, h3⟩ := hH.sp o blk x h1
 rw [hy] at h2; cases h2
 exact ⟨h1, h3⟩
theorem rngY_ok {nt n : Nat} (hng : nt ≤ gh) {x y : PC} {ca cx : Code} (hA : CS P N C E B nt n x ca) (hX : CS P N C E B nt n y cx) {ps : Array Tmp} (hps : ∀ p ∈ ps.toList, p < nt) (hdx : dstsB nt true x = true) (hdy : dstsB nt true y = true) {base : Nat} {s : St}
  (hI : Inv P N C E B base nt s a w S β) {w2 : World} (hext : Ext B w S w2 S) {β2 : Pl} {l : Nat} {rec : Loop} {bo : BO} (hβ2 : β2 = upd (upd β (s.H.length + 1) bo) s.H.length (.sp l (.loop rec)))
  (h1 : rec.tmps = a.tmps) (h2 : rec.params = ps) (h3 : rec.assign = ca) (h4 : rec.body = cx) (live : List Nat) :
  YOK P C N E.G (rngY (fun b s => evalC E (lpN n) b x s) (fun b s => evalC E (lpN n) b y s) (Fr.only live s.fr) s.H.length ps.toList E.yld) B w2 S β2 (s.H.length + 2) := by
 have hb2 : β2 s.H.length = .sp l (.loop rec) := by rw [hβ2, upd_same]
 have hlow : ∀ o, o < s.H.length → β2 o = β o := fun o ho => by rw [hβ2, upd_ne (by omega), upd_ne (by omega)]
 obtain ⟨yb, hyb, hyok⟩ := hI.yok
 have hbs := hI.base
 have lb02 : Lb s.H.length β β2 := fun o ho => ⟨.inl (hlow o ho), fun h => by rw [hlow o ho]; exact h⟩
 intro o' args H r H' h
 unfold rngY at h
 split at h
 ·rename_i ho
  subst ho
  split at h
  ·rename_i hal
   split at h
   ·rename_i hobj
    refine ⟨hobj, ?_⟩
    intro w3 S3 β3 us blk r0 e3 l3 hl3 hB3 hS3 hG3 hH3 hb3 hlen hrel F nf hF hd ha
    obtain ⟨hbo, hsp⟩ := sp_stay (y := .lp 0 none) hb2 (l3 _ (by omega)).1 hH3 hobj
    rw [hb3] at hbo
    cases hbo
    have hsp : w3.heap[l]? = some (.loop { rec with state := .ready, pending := none }) := hsp
    refine ⟨_, hsp, ?_, ?_⟩
    ·show us.length = rec.params.size
     rw [h2, ← hlen, hal, Array.length_toList]
    have hFR : F.inRound l = FR (some l) := by
     obtain ⟨fn, dp, al, rd⟩ := F
     simp only at hF hd ha
     have : fn = fun _ => True := funext fun f => propext ⟨fun _ => trivial, fun _ => hF f⟩
     subst this hd ha
     rfl
    refine roundIn_of_wpIn (hF _) ?_
    rw [hFR]
    split at h
    ·rename_i s1 hev1
     split at h
     ·rename_i hobj1
      split at h
      ·rename_i e s2 hev2
       split at h
       ·rename_i hobj2
        simp only [Option.some.injEq] at h
        have lb23 : Lb s.H.length β β3 := lb02.trans (l3.mono (by omega))
        have e03 : Ext B w S w3 S3 := hext.trans e3
        have lat3 : Later β β3 := later_of_lb lb23 (fun o ho => hI.hok.out o ho)
        subst h2 h3 h4
        have hlt : s.H.length < H.length := by omega
        have hargs : args.length = us.length := hlen
        have hfok : FOK C w3 S3 β3 (setA (Fr.only live s.fr) rec.params.toList args) { tmps := (rec.params.zip us.toArray).foldl (fun tmps (t, a) => tmps.setIfInBounds t a) rec.tmps, defers := [] } := by
         intro t
         show RelV C w3 S3 β3 _ (Array.getD (Array.foldl _ _ _) t undef)
         rw [zip_fold]
         refine fok_setA _ args us _ rec.tmps hargs (fun p hp => ?_) (fun t => ?_) hrel t
         ·rw [h1, hI.size]; exact hps p hp
         ·rw [h1]
          rcases get_only live t s.fr with h | h
          ·rw [h]; exact (hI.fok t).ext e03 lat3
          ·rw [h]; exact .u _
        refine hA H.length (some l) nf hdx _ s1 .norm _ w3 S3 β3 _ hev1 ⟨hS3, hG3, hB3, hH3, hfok, ?_, ?_, ⟨yb, by omega, hyok.later e03 (lb23.mono (by omega))⟩, Nat.le_refl _⟩ ?_
        ·show Array.size (Array.foldl _ _ _) = nt
         rw [zip_fold, setA_size, h1]; exact hI.size
        ·refine ⟨[], List.nodup_nil, fun t ht => absurd ht (List.not_mem_nil), fun t ht hne => absurd ?_ hne, rfl, fun j hj => absurd hj (Nat.not_lt_zero _)⟩
         rw [get_setA_ne _ _ _ (fun hm => Nat.not_lt.2 (Nat.le_trans hng ht) (hps t hm))]
         exact get_only_gh live ht s.fr
        intro a1 w4 S4 β4 hI4 e4 l4
        show ∃ w5, _
        obtain ⟨hb4, hsp4⟩ := sp_stay (y := .lp 0 none) hb3 (l4 _ hlt).1 hI4.hok hobj1
        have hsp4 : w4.heap[l]? = some (.loop { rec with state := .ready, pending := none }) := hsp4
        have hl4 : l < w4.heap.size := (Array.getElem?_eq_some_iff.1 hsp4).1
        refine ⟨_, run_beginRound hsp4 rfl, ?_⟩
        obtain ⟨e5, h5⟩ := setsp hI4.hok hI4.swf hb4 (.loop { rec with state := .busy, pending := none }) (y' := .lp 2 none) (World.putObj_heap_same hl4)
        refine hX H.length (some l) nf hdy _ s2 e a1 _ S4 β4 _ hev2 ⟨hI4.swf.ext e5, hI4.gok.ext e5, by rw [World.putObj_size]; exact hI4.hB, h5, hI4.fok.ext e5 (Later.refl _), hI4.size, hI4.defers.ext e5 (Later.refl _), ⟨yb, by omega, hyok.later (e03.trans (e4.trans e5)) ((lb23.mono (by omega)).trans (l4.mono (by omega)))⟩, by rw [put_length]; exact hI4.base⟩ ?_
        intro a2 w6 S6 β6 hI6 e6 l6
        obtain ⟨hb6, hsp6⟩ := sp_stay (y := .lp 2 none) hb4 (l6 _ hlt).1 hI6.hok hobj2
        have hsp6 : w6.heap[l]? = some (.loop { rec with state := .busy, pending := none }) := hsp6
        have hl6 : l < w6.heap.size := (Array.getElem?_eq_some_iff.1 hsp6).1
        have key : ∀ jump : Option Code, jump = (if isN e then none else some (exC e)) → ∃ v w', (Instr.endRound l jump).run P w6 = .ok v w' ∧ ∃ u S' β', Ending.returned v = Ending.returned u ∧ Ext B w3 S3 w' S' ∧ Swf w' S' ∧ HOK C B w' S' β' H' ∧ Later β3 β' ∧ RelV C w' S' β' r u ∧ H.length ≤ H'.length ∧ Kp H.length H.length β3 β' := by
         intro jump hj
         refine ⟨_, _, run_endRound jump hsp6, ?_⟩
         have hy : SpOK (w6.putObj l (.loop { rec with state := if jump.isNone then .ready else .done, pending := jump })) S6 l (.loop rec) (if isN e then .lp 0 none else .lp 1 (some e)) := by
          cases hn : isN e with
          | true =>
           rw [hn] at hj
           subst hj
           exact World.putObj_heap_same hl6
          | false =>
           rw [hn] at hj
           subst hj
           exact World.putObj_heap_same hl6
         obtain ⟨e7, h7⟩ := setsp hI6.hok hI6.swf hb6 (.loop { rec with state := if jump.isNone then .ready else .done, pending := jump }) hy
         have hbool : RelV C (w6.putObj l (.loop { rec with state := if jump.isNone then .ready else .done, pending := jump })) S6 β6 (.d (.b (isN e))) (.bool jump.isNone) := by
          have : jump.isNone = isN e := by rw [hj]; cases isN e <;> rfl
          rw [this]; exact .d _ _ (.b _)
         obtain ⟨β7, k1, k2, k3, k4⟩ := gcV_hok h7 hbool (base := H.length) (by rw [put_length]; exact hI6.base)
         have lb37 : Lb H.length β3 β7 := l4.trans (l6.trans k3)
         rw [h] at k1 k2 k4
         exact ⟨_, S6, β7, rfl, e4.trans (e5.trans (e6.trans e7)), hI6.swf.ext e7, k1, later_of_lb lb37 (fun o ho => hH3.out o ho), k2, k4, fun o ho _ hp => (lb37 o ho).2 hp⟩
        cases e with
        | norm => exact key none rfl
        | exit id => exact key (some (.exit id)) rfl
        | ret => exact key (some .ret) rfl
       ·cases h
      ·cases h
     ·cases h
    ·cases h
   ·cases h
  ·cases h
 ·obtain ⟨g1, g2⟩ := hyok o' args H r H' h
  refine ⟨g1, fun w3 S3 β3 us blk r0 e3 l3 hl3 => g2 w3 S3 β3 us blk r0 (hext.trans e3) ((lb02.mono (by omega)).trans (l3.mono (by omega))) (by omega)⟩
theorem rng_sound (hO : OrOK P C N E) (hN : NOK P N C E.G) {nt n : Nat} (hng : nt ≤ gh) {x y : PC} {ca cx : Code} (hA : CS P N C E B nt n x ca) (hX : CS P N C E B nt n y cx) {f : Operand} {rf : Rand} (hr : rand P N none f = some rf) {ps : Array Tmp} (hps : ∀ p ∈ ps.toList, p < nt) {g : Nat} (hg : gh ≤ g)
  {live : List Nat} (hdx : dstsB nt true x = true) (hdy : dstsB nt true y = true) {base : Nat} {s s' : St} {ex : Ex} {nf : Nat} {Q : Exit → Act → World → Prop} (he : evalC E (lpN n) base (.rng rf g ps.toList live x y) s = some (ex, s')) (hI : Inv P N C E B base nt s a w S β)
  (hQ : ∀ a' w' S' β', Inv P N C E B base nt s' a' w' S' β' → Ext B w S w' S' → Lb base β β' → Q (exOf ex) a' w') : (Code.rangeFunc f ps ca cx).wpIn (FR none) nf P Q a w := by
 simp only [evalC] at he
 split at he
 case h_2 => cases he
 rename_i m caps h1 h2
 split at he
 case h_2 => cases he
 rename_i r H' hit
 have hrel := rand_sound hN hI.gok hI.fok hr
 rw [h1] at hrel
 obtain ⟨us, q1, q2, q3⟩ := func_rel hrel
 refine wpIn_rangeFunc fun fn _ => ?_
 have hpend : ∀ o, s.H.length ≤ o → β o = .pend := fun o ho => hI.hok.out o ho
 have hbs := hI.base
 obtain ⟨yb, hyb, hyok⟩ := hI.yok
 have hg2 := hok_grow hI.hok 2
 have ho1 : β (s.H.length + 1) = .pend := hpend _ (by omega)
 obtain ⟨k1, k2⟩ := hok_newsp hg2 hI.swf hI.hB (id := s.H.length + 1) ho1 (by simp) (ob := .deferred (some [])) (x := .defer) (y := .df) (World.alloc_heap_new w _)
 have e1 : Ext B w S (w.alloc (.deferred (some []))) S := newsp_ext hI.swf hI.hB _
 have hS1 : Swf (w.alloc (.deferred (some []))) S := hI.swf.ext e1
 have hB1 : B ≤ (w.alloc (.deferred (some []))).heap.size := Nat.le_trans hI.hB e1.below.size
 have hsz1 : (w.alloc (.deferred (some []))).heap.size = w.heap.size + 1 := World.size_alloc ..
 have ho0 : upd β (s.H.length + 1) (.sp w.heap.size .defer) s.H.length = .pend := by rw [upd_ne (by omega)]; exact hpend _ (Nat.le_refl _)
 obtain ⟨k3, k4⟩ := hok_newsp k1 hS1 hB1 (id := s.H.length) ho0 (by simp [put_length]) (ob := .loop { state := .ready, pending := none, fn, tmps := a.tmps, params := ps, assign := ca, body := cx, defers := w.heap.size })
  (x := .loop { state := .ready, pending := none, fn, tmps := a.tmps, params := ps, assign := ca, body := cx, defers := w.heap.size }) (y := .lp 0 none) (World.alloc_heap_new _ _)
 have e2 : Ext B (w.alloc (.deferred (some []))) S ((w.alloc (.deferred (some []))).alloc (.loop { state := .ready, pending := none, fn, tmps := a.tmps, params := ps, assign := ca, body := cx, defers := w.heap.size })) S := newsp_ext hS1 hB1 _
 rw [obj_two, hsz1] at k3
 rw [hsz1] at k4
 generalize hrec : ({ state := .ready, pending := none, fn, tmps := a.tmps, params := ps, assign := ca, body := cx, defers := w.heap.size } : Loop) = rec at *
 generalize hw2 : (w.alloc (.deferred (some []))).alloc (.loop rec) = w2 at *
 generalize hβ2 : upd (upd β (s.H.length + 1) (.sp w.heap.size .defer)) s.H.length (.sp (w.heap.size + 1) (.loop rec)) = β2 at *
 have e02 : Ext B w S w2 S := e1.trans e2
 have hb2 : β2 s.H.length = .sp (w.heap.size + 1) (.loop rec) := by rw [← hβ2, upd_same]
 have hd2 : β2 (s.H.length + 1) = .sp w.heap.size .defer := by rw [← hβ2, upd_ne (by omega), upd_same]
 have lat2 : Later β β2 := (k2).trans k4
 have hyk := rngY_ok hng hA hX hps hdx hdy hI e02 hβ2.symm (by rw [← hrec]) (by rw [← hrec]) (by rw [← hrec]) (by rw [← hrec]) live
 have hlen2 : (s.H ++ [some (Obj.lp 0 none), some Obj.df]).length = s.H.length + 2 := by simp
 have hcall := hO.it _ _ _ _ _ _ hit B w2 S β2 (.func (.yield (w.heap.size + 1)) #[] #[] :: us) (Nat.le_trans hI.hB e02.below.size) (hI.swf.ext e02) (hI.gok.ext e02) k3 (by simp [q2]) (fun j hj hj' => by
  cases j with
  | zero =>
   have hrh : RelH β2 s.H.length (.func (.yield (w.heap.size + 1)) #[] #[]) := by
    unfold RelH
    rw [hb2]
   exact .h _ _ rfl hrh
  | succ j => exact (q3 j (by simpa using hj) (by simpa using hj')).ext e02 lat2) (by rw [hlen2]; exact hyk)
 refine ⟨w.heap.size + 1, [{ target := .collected w.heap.size, args := #[] }], w2, { target := .fn (.func (C.μ m)) us.toArray, args := #[.func (.yield (w.heap.size + 1)) #[] #[]] }, w2, C.μ m, (Value.func (.yield (w.heap.size + 1)) #[] #[] :: us).toArray, w2, ?_, ?_, fun _ _ => trivial, ?_, (fun h => by simp [FR, Fence.wide] at h), calls_FR.2 (hcall.mono ?_)⟩
 ·rw [← hw2, ← hrec]; exact run_enterLoop_outer fn a.tmps ps ca cx
 ·simp only [resolve, q1, Deferred.ofValue, Sem.run_pure, List.map_toArray, List.map_cons, List.map_nil, Array.empty_append]
  rfl
 ·obtain ⟨fn', z1, z2, z3⟩ := hO.fni _ _ _ _ _ hit
  simp only [invoke]
  have harr : #[Value.func (.yield (w.heap.size + 1)) #[] #[]] ++ us.toArray = (Value.func (.yield (w.heap.size + 1)) #[] #[] :: us).toArray := by apply Array.ext'; simp
  rw [harr]
  exact run_call_func z1 z2 z3 _
 rintro e w3 ⟨u, S3, β3, rfl, e3, hS3, hH3, lat3, -, hl3, kp3⟩
 rw [hlen2] at hl3 kp3
 have lb03 : Lb base β β3 := fun o ho => by
  have h02 : β2 o = β o := by rw [← hβ2, upd_ne (by omega), upd_ne (by omega)]
  refine ⟨?_, fun hp => kp3 o (by omega) (by omega) (by rw [h02]; exact hp)⟩
  rw [← h02]; exact lat3 o
 have fin : ∀ (st : Nat) (j : Option Ex), (H'.obj s.H.length = some (.lp st j)) → stOf st ≠ .busy → ∀ (s1 : St), s1 = ⟨s.fr.set g (.g (.h (s.H.length + 1))), H'.put s.H.length none⟩ → ∃ w4, (Instr.endLoop (w.heap.size + 1)).run P w3 = .ok (j.map exC) w4 ∧ ∃ S4 β4, Ext B w S w4 S4 ∧ Lb base β β4 ∧
   Inv P N C E B base nt s1 { a with defers := [{ target := .collected w.heap.size, args := #[] }] ++ a.defers } w4 S4 β4 := by
  intro st j hob hst s1 hs1
  obtain ⟨hb3, hsp3⟩ := sp_stay hb2 (lat3 _) hH3 hob
  have hsp3 : w3.heap[w.heap.size + 1]? = some (.loop { rec with state := stOf st, pending := j.map exC }) := hsp3
  refine ⟨_, run_endLoop hsp3 hst, S3, upd β3 s.H.length .dead, ?_⟩
  obtain ⟨e4, h4, l4⟩ := hok_shut hH3 hS3 hb3 (.loop { rec with state := .exhausted, pending := j.map exC })
  have e04 := e02.trans (e3.trans e4)
  have lat04 : Later β (upd β3 s.H.length .dead) := lat2.trans (lat3.trans l4)
  have lb04 : Lb base β (upd β3 s.H.length .dead) := lb03.trans (fun o ho => by rw [upd_ne (by omega)]; exact ⟨.inl rfl, fun h => h⟩)
  refine ⟨e04, lb04, ?_⟩
  subst hs1
  refine ⟨hS3.ext e4, hI.gok.ext e04, Nat.le_trans hI.hB e04.below.size, h4, ?_, hI.size, ?_, ⟨yb, hyb, hyok.later e04 (lb04.mono hyb)⟩, by simp only [put_length]; omega⟩
  ·intro t
   show RelV C _ S3 _ ((s.fr.set g _).get t) _
   rw [get_set]
   split
   ·exact .g _ _
   ·exact (hI.fok t).ext e04 lat04
  ·refine (hI.defers.ext e04 lat04).push hg h2 ⟨w.heap.size, rfl, ?_⟩
   rcases l4 (s.H.length + 1) with h | h | h
   ·rcases lat3 (s.H.length + 1) with h' | h' | h'
    ·rw [h, h', hd2]; exact .inl rfl
    ·rw [h, h']; exact .inr rfl
    ·rw [hd2] at h'; cases h'
   ·exact .inr h
   ·rcases lat3 (s.H.length + 1) with h' | h' | h'
    ·rw [h', hd2] at h; cases h
    ·rw [h'] at h; cases h
    ·rw [hd2] at h'; cases h'
 split at he
 ·rename_i hob
  simp only [Option.some.injEq, Prod.mk.injEq] at he
  obtain ⟨rfl, rfl⟩ := he
  obtain ⟨w4, r1, S4, β4, r2, r3, r4⟩ := fin 0 none hob (by simp [stOf]) _ rfl
  exact ⟨none, w4, r1, hQ _ w4 S4 β4 r4 r2 r3⟩
 ·rename_i e' hob
  simp only [Option.some.injEq, Prod.mk.injEq] at he
  obtain ⟨rfl, rfl⟩ := he
  obtain ⟨w4, r1, S4, β4, r2, r3, r4⟩ := fin 1 (some e') hob (by simp [stOf]) _ rfl
  refine ⟨some (exC e'), w4, r1, ?_⟩
  cases e' with
  | norm => exact wpIn_skip (hQ _ w4 S4 β4 r4 r2 r3)
  | exit id => exact wpIn_exit (hQ _ w4 S4 β4 r4 r2 r3)
  | ret => exact wpIn_ret (hQ _ w4 S4 β4 r4 r2 r3)
 ·cases he
end
end Go.Sim
end
section
open Go.RowKit
namespace Go.Sim
section
variable {P : Program} {N : Names} {C : Cx} {w : World} {S : Stab} {β : Pl} {B : Nat} {H : Heap} {a : Act} {E : Env}
theorem digO_def {ops : Array Oper} {o : Oper} (h : isDefer o.op = true) : (digO P N ops o).g = none ∧ ((digO P N ops o).op = .bad ∧ (digO P N ops o).dst = o.dst ∨ (∃ x y, (digO P N ops o).op = .dfr x y) ∧ o.dst = none) := by
 cases hop : o.op <;> (rw [hop] at h; try (cases h; done))
 rename_i c
 unfold digO
 split
 ·rename_i x g hx hg
  rw [if_pos (by rw [hop]; rfl)]
  split
  ·rename_i hc
   simp only [Bool.and_eq_true, Option.isNone_iff_eq_none] at hc
   refine ⟨rfl, .inr ⟨?_, hc.2⟩⟩
   simp only [digOp, hop] at hx
   split at hx
   ·split at hx
    ·cases hx; exact ⟨_, _, rfl⟩
    ·cases hx
   ·cases hx
  ·exact ⟨rfl, .inl ⟨rfl, rfl⟩⟩
 ·exact ⟨rfl, .inl ⟨rfl, rfl⟩⟩
theorem evalOps_bad {E : Env} : ∀ (L : List IOper) (id : Nat) (s s' : St), evalOps E L id s = some s' → ∀ o ∈ L, o.g = none → o.op ≠ .bad
 | [], _, _, _, _, _, hm, _ => absurd hm (List.not_mem_nil)
 | o :: L, id, s, s', h, o', hm, hg => by
  rcases List.mem_cons.1 hm with rfl | hm
  ·intro hb
   simp only [evalOps, hg, hb, evalOp] at h
   cases h
  ·simp only [evalOps] at h
   have go : ∀ r, (match evalOp E (rd E s.fr) s.H id o.op with
     | some (v, H) => evalOps E L (if o.op.adds then id + 1 else id) ⟨match o.dst with | some t => s.fr.set t v | none => s.fr, H⟩
     | none => none) = some r → o'.op ≠ .bad := by
    intro r hr
    split at hr
    ·exact evalOps_bad L _ _ _ hr o' hm hg
    ·cases hr
   split at h
   ·exact go _ h
   ·split at h
    ·split at h
     ·exact go _ h
     ·exact evalOps_bad L _ _ _ h o' hm hg
    ·exact evalOps_bad L _ _ _ h o' hm hg
    ·cases h
theorem evalOpsD_bad {E : Env} : ∀ (L : List IOper) (bf : List Nat) (acc : List (List Nat × List Nat)) (id : Nat) (s s' : St), evalOpsD E L bf acc id s = some s' → ∀ o ∈ L, o.g = none → o.op ≠ .bad ∧ ∀ x y, o.op ≠ .dfr x y
 | [], _, _, _, _, _, _, _, hm, _ => absurd hm (List.not_mem_nil)
 | o :: L, bf, acc, id, s, s', h, o', hm, hg => by
  simp only [evalOpsD] at h
  split at h
  ·rename_i s1 h1
   split at h
   ·rcases List.mem_cons.1 hm with rfl | hm
    ·refine ⟨fun hb => ?_, fun x y hb => ?_⟩ <;>
     ·simp [stepD, hg, hb, evalOpD, IOp.okD, IOp.barr] at h1
    ·exact evalOpsD_bad L _ _ _ _ _ h o' hm hg
   ·cases h
  ·cases h
theorem digOp_nodfr {o : Oper} {x y : Rand} (h : digOp P N o = some (.dfr x y)) : isDefer o.op = true := by
 cases hop : o.op <;> simp only [digOp, hop] at h <;> first
  | rfl
  | (exfalso; repeat' first
    | (cases h; done)
    | contradiction
    | (split at h)
    | (rw [Option.bind_eq_some_iff] at h; obtain ⟨_, _, h⟩ := h)
    | (simp only [digCall, digBin] at h))
theorem digO_nodfr {ops : Array Oper} {o : Oper} (hd : isDefer o.op = false) (x y : Rand) : (digO P N ops o).op ≠ .dfr x y := by
 intro h
 unfold digO at h
 split at h
 ·rename_i z g hz hg
  rw [if_neg (by simp [hd])] at h
  simp only at h
  subst h
  rw [digOp_nodfr hz] at hd
  cases hd
 ·cases h
theorem dst_ok {nt : Nat} {inr : Bool} {ops : Array Oper} (hd : (ops.toList.map (digO P N ops)).all (dstB nt inr) = true) : ∀ o ∈ ops.toList, ∀ d, o.dst = some d → d < nt := by
 intro o ho d hod
 have h1 : dstB nt inr (digO P N ops o) = true := List.all_eq_true.1 hd _ (List.mem_map_of_mem ho)
 cases hdf : isDefer o.op with
 | true =>
  rcases (digO_def (P := P) (N := N) (ops := ops) hdf).2 with ⟨h2, h3⟩ | ⟨-, h3⟩
  ·unfold dstB at h1
   rw [h2, h3, hod] at h1
   simpa using h1
  ·rw [h3] at hod; cases hod
 | false =>
  have h3 := digO_dst (P := P) (N := N) o ops hdf
  unfold dstB at h1
  split at h1
  ·rename_i x y hx
   exact absurd hx (digO_nodfr hdf x y)
  ·rw [h3, hod] at h1
   simpa using h1
theorem code_sound (hO : OrOK P C N E) (hN : NOK P N C E.G) {nt n : Nat} (hng : nt ≤ gh) : ∀ (pc : PC) (c : Code), bare pc = digC P N c → CS P N C E B nt n pc c := by
 intro pc
 induction pc with
 | skip =>
  intro c hb base ro nf _ s s' ex a w S β Q he hI hQ
  cases c with
  | skip =>
   simp only [evalC, Option.some.injEq, Prod.mk.injEq] at he
   obtain ⟨rfl, rfl⟩ := he
   exact wpIn_skip (hQ a w S β hI (Ext.refl _ _ _) (Lb.refl _ _))
  | region id ops d => simp only [digC, bare] at hb; split at hb <;> first | (cases hb; done) | (split at hb <;> cases hb)
  | rangeFunc f ps x y => simp only [digC, bare] at hb; split at hb <;> cases hb
  | cond x y z => simp only [digC, bare] at hb; split at hb <;> cases hb
  | _ => simp [bare, digC] at hb
 | reg ops kill =>
  intro c hb base ro nf hds s s' ex a w S β Q he hI hQ
  cases c with
  | region id ops' d =>
   simp only [digC, bare] at hb
   split at hb
   ·split at hb <;> cases hb
   ·rename_i hd
    simp only [PC.reg.injEq, and_true] at hb
    subst hb
    have hd' : d = false := by simpa using hd
    subst hd'
    simp only [evalC] at he
    split at he
    ·rename_i s1 hs1
     simp only [Option.some.injEq, Prod.mk.injEq] at he
     obtain ⟨rfl, rfl⟩ := he
     unfold evalReg at hs1
     split at hs1
     ·rename_i s2 hs2
      cases hs1
      refine wpIn_region ?_
      rw [List.range_eq_range']
      have hlen : s.H.length ≤ (s.H ++ List.replicate (nadds (ops'.toList.map (digO P N ops'))) none).length := by simp
      have hd2 := dst_ok (P := P) (N := N) (ops := ops') hds
      have hro : ro = none ∨ ∀ o ∈ ops'.toList, isDefer o.op = false := by
       cases ro with
       | none => exact .inl rfl
       | some l =>
        refine .inr fun o ho => ?_
        cases hdf : isDefer o.op with
        | false => rfl
        | true =>
         exfalso
         have hm : digO P N ops' o ∈ ops'.toList.map (digO P N ops') := List.mem_map_of_mem ho
         obtain ⟨g1, g2⟩ := digO_def (P := P) (N := N) (ops := ops') hdf
         rcases g2 with ⟨g2, -⟩ | ⟨⟨x, y, g2⟩, -⟩
         ·exact evalOps_bad _ _ _ _ hs2 _ hm g1 g2
         ·have := List.all_eq_true.1 hds _ hm
          unfold dstB at this
          rw [g2] at this
          cases this
      obtain ⟨yb, hyb, hyok⟩ := hI.yok
      refine ops_sound (base := base) (nt := nt) hO hN hng hro hd2 ops'.size 0 s.H.length (s.H.length + nadds (ops'.toList.map (digO P N ops'))) ⟨s.fr, s.H ++ List.replicate (nadds (ops'.toList.map (digO P N ops'))) none⟩ s2 a w S β (by omega) (by simpa using hs2) ⟨hI.swf, hI.gok, hI.hB, hok_grow hI.hok _, hI.fok, hI.size, hI.defers, ⟨yb, hyb, hyok⟩, Nat.le_trans hI.base hlen⟩ ?_ ?_ ?_ hI.base ?_
      ·intro j hj _
       exact hI.hok.out j hj
      ·simp
      ·simp
      ·intro a' w' S' β' hI' e1 e2
       refine hQ a' w' S' β' ⟨hI'.swf, hI'.gok, hI'.hB, hI'.hok, ?_, hI'.size, hI'.defers.frame (fun t ht => get_drop_gh kill ht s2.fr), hI'.yok, hI'.base⟩ e1 e2
       intro t
       rcases get_drop kill t s2.fr with h | h
       ·rw [h]; exact hI'.fok t
       ·rw [h]; exact .u _
     ·cases hs1
    ·cases he
  | cond x y z => simp only [digC, bare] at hb; split at hb <;> cases hb
  | rangeFunc f ps x y => simp only [digC, bare] at hb; split at hb <;> cases hb
  | _ => simp [bare, digC] at hb
 | regD ops bf kill =>
  intro c hb base ro nf hds s s' ex a w S β Q he hI hQ
  cases c with
  | region id ops' d =>
   simp only [digC, bare] at hb
   split at hb
   ·rename_i hd
    split at hb
    ·rename_i hok
     simp only [PC.regD.injEq, and_true] at hb
     obtain ⟨rfl, rfl⟩ := hb
     subst hd
     simp only [evalC] at he
     split at he
     ·rename_i s1 hs1
      simp only [Option.some.injEq, Prod.mk.injEq] at he
      obtain ⟨rfl, rfl⟩ := he
      unfold evalRegD at hs1
      split at hs1
      ·rename_i s2 hs2
       cases hs1
       have hd2 := dst_ok (P := P) (N := N) (ops := ops') hds
       have hnof : ∀ o ∈ ops'.toList, isDefer o.op = false := by
        intro o ho
        cases hdf : isDefer o.op with
        | false => rfl
        | true =>
         exfalso
         have hm : digO P N ops' o ∈ ops'.toList.map (digO P N ops') := List.mem_map_of_mem ho
         obtain ⟨g1, g2⟩ := digO_def (P := P) (N := N) (ops := ops') hdf
         obtain ⟨g3, g4⟩ := evalOpsD_bad _ _ _ _ _ _ hs2 _ hm g1
         rcases g2 with ⟨g2, -⟩ | ⟨⟨x, y, g2⟩, -⟩
         ·exact g3 g2
         ·exact g4 x y g2
       refine regD_sound (base := base) (nt := nt) (B := B) (S := S) (β := β) hO hN hng hnof hd2 hok hs2 hI ?_
       ·intro a' w' S' β' hI' e1 e2
        refine hQ a' w' S' β' ⟨hI'.swf, hI'.gok, hI'.hB, hI'.hok, ?_, hI'.size, hI'.defers.frame (fun t ht => get_drop_gh kill ht s2.fr), hI'.yok, hI'.base⟩ e1 e2
        intro t
        rcases get_drop kill t s2.fr with h | h
        ·rw [h]; exact hI'.fok t
        ·rw [h]; exact .u _
      ·cases hs1
     ·cases he
    ·cases hb
   ·cases hb
  | cond x y z => simp only [digC, bare] at hb; split at hb <;> cases hb
  | rangeFunc f ps x y => simp only [digC, bare] at hb; split at hb <;> cases hb
  | _ => simp [bare, digC] at hb
 | seq x y ihx ihy =>
  intro c hb base ro nf hds s s' ex a w S β Q he hI hQ
  simp only [dstsB, Bool.and_eq_true] at hds
  cases c with
  | seq c1 c2 =>
   simp only [digC, bare, PC.seq.injEq] at hb
   simp only [evalC] at he
   refine wpIn_seq ?_
   cases hx : evalC E (lpN n) base x s with
   | none => rw [hx] at he; cases he
   | some v =>
    obtain ⟨e1, s1⟩ := v
    refine ihx c1 hb.1 base ro nf hds.1 s s1 e1 a w S β _ hx hI ?_
    intro a' w' S' β' hI' g1 g2
    rw [hx] at he
    cases e1 with
    | norm =>
     exact ihy c2 hb.2 base ro nf hds.2 s1 s' ex a' w' S' β' Q he hI' fun a'' w'' S'' β'' hI'' g3 g4 => hQ a'' w'' S'' β'' hI'' (g1.trans g3) (g2.trans g4)
    | exit id =>
     simp only [Option.some.injEq, Prod.mk.injEq] at he
     obtain ⟨rfl, rfl⟩ := he
     exact hQ a' w' S' β' hI' g1 g2
    | ret =>
     simp only [Option.some.injEq, Prod.mk.injEq] at he
     obtain ⟨rfl, rfl⟩ := he
     exact hQ a' w' S' β' hI' g1 g2
  | region id ops d => simp only [digC, bare] at hb; split at hb <;> first | (cases hb; done) | (split at hb <;> cases hb)
  | rangeFunc f ps x y => simp only [digC, bare] at hb; split at hb <;> cases hb
  | cond x y z => simp only [digC, bare] at hb; split at hb <;> cases hb
  | _ => simp [bare, digC] at hb
 | cond c x y ihx ihy =>
  intro cc hb base ro nf hds s s' ex a w S β Q he hI hQ
  simp only [dstsB, Bool.and_eq_true] at hds
  cases cc with
  | cond c0 c1 c2 =>
   simp only [digC, bare] at hb
   split at hb
   ·rename_i r hr
    simp only [PC.cond.injEq] at hb
    obtain ⟨rfl, hb1, hb2⟩ := hb
    have hrel := rand_sound hN hI.gok hI.fok hr
    simp only [evalC] at he
    split at he
    ·rename_i hc
     rw [hc] at hrel
     exact wpIn_cond_true (bool_rel hrel) (ihx c1 hb1 base ro nf hds.1 s s' ex a w S β Q he hI hQ)
    ·rename_i hc
     rw [hc] at hrel
     exact wpIn_cond_false (bool_rel hrel) (ihy c2 hb2 base ro nf hds.2 s s' ex a w S β Q he hI hQ)
    ·cases he
   ·cases hb
  | region id ops d => simp only [digC, bare] at hb; split at hb <;> first | (cases hb; done) | (split at hb <;> cases hb)
  | rangeFunc f ps x y => simp only [digC, bare] at hb; split at hb <;> cases hb
  | _ => simp [bare, digC] at hb
 | block id x ih =>
  intro c hb base ro nf hds s s' ex a w S β Q he hI hQ
  simp only [dstsB] at hds
  cases c with
  | block id' c1 =>
   simp only [digC, bare, PC.block.injEq] at hb
   obtain ⟨rfl, hb⟩ := hb
   simp only [evalC] at he
   refine wpIn_block ?_
   cases hx : evalC E (lpN n) base x s with
   | none => rw [hx] at he; cases he
   | some v =>
    obtain ⟨e1, s1⟩ := v
    rw [hx] at he
    refine ih c1 hb base ro nf hds s s1 e1 a w S β _ hx hI ?_
    intro a' w' S' β' hI' g1 g2
    cases e1 with
    | norm =>
     simp only [Option.some.injEq, Prod.mk.injEq] at he
     obtain ⟨rfl, rfl⟩ := he
     exact hQ a' w' S' β' hI' g1 g2
    | exit j =>
     simp only at he
     split at he
     ·rename_i hj
      simp only [Option.some.injEq, Prod.mk.injEq] at he
      obtain ⟨rfl, rfl⟩ := he
      simp only [beq_iff_eq] at hj
      subst hj
      simp only [exOf, Exit.inBlock, if_true]
      exact hQ a' w' S' β' hI' g1 g2
     ·rename_i hj
      simp only [Option.some.injEq, Prod.mk.injEq] at he
      obtain ⟨rfl, rfl⟩ := he
      simp only [beq_iff_eq] at hj
      simp only [exOf, Exit.inBlock, hj, if_false]
      exact hQ a' w' S' β' hI' g1 g2
    | ret =>
     simp only [Option.some.injEq, Prod.mk.injEq] at he
     obtain ⟨rfl, rfl⟩ := he
     exact hQ a' w' S' β' hI' g1 g2
  | region id ops d => simp only [digC, bare] at hb; split at hb <;> first | (cases hb; done) | (split at hb <;> cases hb)
  | rangeFunc f ps x y => simp only [digC, bare] at hb; split at hb <;> cases hb
  | cond x y z => simp only [digC, bare] at hb; split at hb <;> cases hb
  | _ => simp [bare, digC] at hb
 | loop live x ih =>
  intro c hb base ro nf hds s s' ex a w S β Q he hI hQ
  simp only [dstsB] at hds
  cases c with
  | loop c1 =>
   simp only [digC, bare, PC.loop.injEq, true_and] at hb
   simp only [evalC] at he
   refine wpIn_loop_rounds n ?_
   have key : ∀ (m : Nat) (s : St) (a : Act) (w1 : World) (S1 : Stab) (β1 : Pl), lpN m (fun s => evalC E (lpN n) base x (gc live base s)) s = some (ex, s') → Inv P N C E B base nt s a w1 S1 β1 → Ext B w S w1 S1 → Lb base β β1 → Code.roundsIn (FR ro) nf P c1 Q m a w1 := by
    intro m
    induction m with
    | zero => intro s a w1 S1 β1 h; cases h
    | succ m ihm =>
     intro s a w1 S1 β1 h hI1 g1 g2
     rw [roundsIn_succ]
     rw [lpN] at h
     obtain ⟨β2, hI2, g3⟩ := gc_inv hI1 live
     cases hx : evalC E (lpN n) base x (gc live base s) with
     | none => rw [hx] at h; cases h
     | some v =>
      obtain ⟨e1, s1⟩ := v
      rw [hx] at h
      refine ih c1 hb base ro nf hds _ s1 e1 a w1 S1 β2 _ hx hI2 ?_
      intro a' w' S' β' hI' g4 g5
      cases e1 with
      | norm => exact ihm s1 a' w' S' β' h hI' (g1.trans g4) ((g2.trans g3).trans g5)
      | exit id =>
       simp only [Option.some.injEq, Prod.mk.injEq] at h
       obtain ⟨rfl, rfl⟩ := h
       exact hQ a' w' S' β' hI' (g1.trans g4) ((g2.trans g3).trans g5)
      | ret =>
       simp only [Option.some.injEq, Prod.mk.injEq] at h
       obtain ⟨rfl, rfl⟩ := h
       exact hQ a' w' S' β' hI' (g1.trans g4) ((g2.trans g3).trans g5)
   exact key n s a w S β he hI (Ext.refl _ _ _) (Lb.refl _ _)
  | region id ops d => simp only [digC, bare] at hb; split at hb <;> first | (cases hb; done) | (split at hb <;> cases hb)
  | rangeFunc f ps x y => simp only [digC, bare] at hb; split at hb <;> cases hb
  | cond x y z => simp only [digC, bare] at hb; split at hb <;> cases hb
  | _ => simp [bare, digC] at hb
 | rng rf g ps live x y ihx ihy =>
  intro c hb base ro nf hds s s' ex a w S β Q he hI hQ
  simp only [dstsB, Bool.and_eq_true, Bool.not_eq_true', Nat.ble_eq] at hds
  obtain ⟨⟨⟨⟨hro, hg⟩, hps⟩, hdx⟩, hdy⟩ := hds
  have hro : ro = none := by
   cases ro with
   | none => rfl
   | some l => cases hro
  subst hro
  cases c with
  | rangeFunc f ps' ca cx =>
   simp only [digC, bare] at hb
   split at hb
   ·rename_i r hr
    simp only [PC.rng.injEq, true_and] at hb
    obtain ⟨rfl, rfl, rfl, hb1, hb2⟩ := hb
    refine rng_sound hO hN hng (ihx ca hb1) (ihy cx hb2) hr ?_ hg hdx hdy he hI hQ
    intro p hp
    have := List.all_eq_true.1 hps p hp
    simpa using this
   ·cases hb
  | region id ops d => simp only [digC, bare] at hb; split at hb <;> first | (cases hb; done) | (split at hb <;> cases hb)
  | cond x y z => simp only [digC, bare] at hb; split at hb <;> cases hb
  | _ => simp [bare, digC] at hb
 | exit id =>
  intro c hb base ro nf _ s s' ex a w S β Q he hI hQ
  cases c with
  | exit id' =>
   simp only [digC, bare, PC.exit.injEq] at hb
   subst hb
   simp only [evalC, Option.some.injEq, Prod.mk.injEq] at he
   obtain ⟨rfl, rfl⟩ := he
   exact wpIn_exit (hQ a w S β hI (Ext.refl _ _ _) (Lb.refl _ _))
  | region id ops d => simp only [digC, bare] at hb; split at hb <;> first | (cases hb; done) | (split at hb <;> cases hb)
  | rangeFunc f ps x y => simp only [digC, bare] at hb; split at hb <;> cases hb
  | cond x y z => simp only [digC, bare] at hb; split at hb <;> cases hb
  | _ => simp [bare, digC] at hb
 | ret =>
  intro c hb base ro nf _ s s' ex a w S β Q he hI hQ
  cases c with
  | ret =>
   simp only [evalC, Option.some.injEq, Prod.mk.injEq] at he
   obtain ⟨rfl, rfl⟩ := he
   exact wpIn_ret (hQ a w S β hI (Ext.refl _ _ _) (Lb.refl _ _))
  | region id ops d => simp only [digC, bare] at hb; split at hb <;> first | (cases hb; done) | (split at hb <;> cases hb)
  | rangeFunc f ps x y => simp only [digC, bare] at hb; split at hb <;> cases hb
  | cond x y z => simp only [digC, bare] at hb; split at hb <;> cases hb
  | _ => simp [bare, digC] at hb
 | bad => intro c hb base ro nf _ s s' ex a w S β Q he; cases he
def resOf (tmps : Array Value) : ResultVar → Sem Value
 | .tmp t => pure (tmps.getD t undef)
 | .cell x t => do loadVar t (← asAddr (tmps.getD x undef))
theorem results_sound {fr : Fr} (hH : HOK C B w S β H) (hf : FOK C w S β fr a) : ∀ {rs : List ResultVar} {xs : List RV} {vs : List PV}, digRs P rs = some xs → results fr H xs = some vs →
  ∃ us : List Value, (rs.mapM (resOf a.tmps)).run P w = .ok us w ∧ vs.length = us.length ∧ ∀ j (h : j < vs.length) (h' : j < us.length), RelV C w S β vs[j] us[j]
 | [], xs, vs, h, hr => by
  cases h
  cases hr
  exact ⟨[], rfl, rfl, fun j h => absurd h (Nat.not_lt_zero _)⟩
 | r :: rs, xs, vs, h, hr => by
  unfold digRs at h
  obtain ⟨x, hx, h⟩ := Option.bind_eq_some_iff.1 h
  obtain ⟨xs', hxs, h⟩ := Option.bind_eq_some_iff.1 h
  cases h
  cases r with
  | tmp t =>
   simp only [digR, Option.some.injEq] at hx
   subst hx
   simp only [Sim.results] at hr
   split at hr
   ·rename_i vs' hvs
    cases hr
    obtain ⟨us, h1, h2, h3⟩ := results_sound hH hf hxs hvs
    refine ⟨a.tmps.getD t undef :: us, ?_, by simp [h2], ?_⟩
    ·simp only [List.mapM_cons, resOf, Sem.run_bind, Sem.run_pure, Result.andThen_ok, h1]
    ·intro j hj hj'
     cases j with
     | zero => exact hf t
     | succ j => exact h3 j (by simpa using hj) (by simpa using hj')
   ·cases hr
  | cell y t =>
   simp only [digR] at hx
   obtain ⟨k, hk, hx⟩ := Option.bind_eq_some_iff.1 hx
   cases hx
   simp only [Sim.results] at hr
   split at hr
   ·rename_i v vs' hv hvs
    cases hr
    obtain ⟨us, h1, h2, h3⟩ := results_sound hH hf hxs hvs
    obtain ⟨u, h4, h5⟩ := loadA_sound hH hk (hf y) hv
    have h6 : (do loadVar t (← asAddr (a.tmps.getD y undef)) : Sem Value).run P w = .ok u w := by
     generalize a.tmps.getD y undef = z at *
     cases z with
     | pointer p =>
      cases p with
      | some p => simpa [Instr.loadAt, Instr.sureAddr, asAddr] using h4
      | none => simp [Instr.loadAt, Instr.sureAddr] at h4
     | _ => simp [Instr.loadAt, Instr.sureAddr] at h4
    refine ⟨u :: us, ?_, by simp [h2], ?_⟩
    ·simp only [Sem.run_bind] at h6
     simp only [List.mapM_cons, resOf, Sem.run_bind, h6, Result.andThen_ok, h1, Sem.run_pure]
    ·intro j hj hj'
     cases j with
     | zero => exact h5
     | succ j => exact h3 j (by simpa using hj) (by simpa using hj')
   ·cases hr
theorem packed_rel {vs : List PV} {us : List Value} (hl : vs.length = us.length) (h : ∀ j (h : j < vs.length) (h' : j < us.length), RelV C w S β vs[j] us[j]) :
  RelV C w S β (packed vs) (if h : us.toArray.size = 1 then us.toArray[0] else .tuple us.toArray) := by
 unfold packed
 split
 ·rename_i v
  have h1 : us.toArray.size = 1 := by simpa using hl.symm
  rw [dif_pos h1]
  have h2 : us.length = 1 := by simpa using h1
  have := h 0 (by simp) (by omega)
  simpa using this
 ·rename_i hn
  have h1 : ¬ us.toArray.size = 1 := by
   intro h1
   have : vs.length = 1 := by simpa [hl] using h1
   cases vs with
   | nil => simp at this
   | cons v r =>
    cases r with
    | nil => exact hn v rfl
    | cons _ _ => simp at this
  rw [dif_neg h1]
  exact .t vs us hl h
def FnOK (P : Program) (N : Names) (f : FuncId) (F : PF) : Prop :=
 ∃ fn c, P.funcs[f]? = some fn ∧ fn.name ≠ "runtime.NumGoroutine" ∧ fn.body = some c ∧ digRs P fn.results.toList = some F.results ∧ bare F.body = digC P N c ∧ dstsB (F.nargs + (fn.ntmps - F.nargs)) false F.body = true ∧ F.nargs + (fn.ntmps - F.nargs) ≤ gh
theorem ghosts_nil : ∀ fr : Fr, ghosts fr = [] → ∀ t, gh ≤ t → fr.get t = .u
 | [], _, _, _ => rfl
 | (j, x) :: r, h, t, ht => by
  simp only [ghosts] at h
  split at h
  ·cases h
  ·rename_i hj
   simp only [Nat.ble_eq] at hj
   simp only [Fr.get]
   rw [if_neg (by omega)]
   exact ghosts_nil r h t ht
theorem ghosts_one {v : PV} : ∀ fr : Fr, ghosts fr = [v] → ∃ t0, gh ≤ t0 ∧ fr.get t0 = v ∧ ∀ t, gh ≤ t → t ≠ t0 → fr.get t = .u
 | [], h => by cases h
 | (j, x) :: r, h => by
  simp only [ghosts] at h
  split at h
  ·rename_i hj
   simp only [Nat.ble_eq] at hj
   simp only [List.cons.injEq] at h
   obtain ⟨rfl, h⟩ := h
   refine ⟨j, hj, by simp [Fr.get], fun t ht hne => ?_⟩
   simp only [Fr.get]
   rw [if_neg (fun e => hne e.symm)]
   exact ghosts_nil r h t ht
  ·rename_i hj
   simp only [Nat.ble_eq] at hj
   obtain ⟨t0, h1, h2, h3⟩ := ghosts_one r h
   have hg : ∀ t, gh ≤ t → Fr.get ((j, x) :: r) t = Fr.get r t := fun t ht => by
    simp only [Fr.get]
    rw [if_neg (by omega)]
   exact ⟨t0, h1, (hg t0 h1).trans h2, fun t ht hne => (hg t ht).trans (h3 t ht hne)⟩
theorem DRel.ne {x : PV} {d : Deferred} (h : DRel C w S β x d) : x ≠ .u := fun hx => by subst hx; exact h
theorem df_nil {fr : Fr} {ds : List Deferred} (h : DfRel C w S β fr ds) (hg : ghosts fr = []) : ds = [] := by
 obtain ⟨sl, h1, h2, h3, h4, h5⟩ := h
 cases ds with
 | nil => rfl
 | cons d ds =>
  have h0 := h5 0 (by simp at h4; omega) (by simp)
  exact absurd (ghosts_nil fr hg _ (h2 _ (List.getElem_mem _))) h0.ne
theorem df_one {fr : Fr} {ds : List Deferred} (h : DfRel C w S β fr ds) {v : PV} (hg : ghosts fr = [v]) (hv : v ≠ .u) : ∃ d, ds = [d] ∧ DRel C w S β v d := by
 obtain ⟨sl, h1, h2, h3, h4, h5⟩ := h
 obtain ⟨t0, g1, g2, g3⟩ := ghosts_one fr hg
 have hm : t0 ∈ sl := h3 t0 g1 (by rw [g2]; exact hv)
 have hall : ∀ j (hj : j < sl.length), sl[j] = t0 := fun j hj => by
  have h0 := (h5 j hj (by omega)).ne
  cases Nat.decEq sl[j] t0 with
  | isTrue h => exact h
  | isFalse h => exact absurd (g3 _ (h2 _ (List.getElem_mem hj)) h) h0
 have hlen : sl.length = 1 := by
  rcases Nat.lt_trichotomy sl.length 1 with h | h | h
  ·have : sl = [] := by cases sl with | nil => rfl | cons _ _ => simp at h
   rw [this] at hm; cases hm
  ·exact h
  ·have hpw := List.pairwise_iff_getElem.1 h1 0 1 (by omega) h (by omega)
   rw [hall 0 (by omega), hall 1 h] at hpw
   exact absurd rfl hpw
 have hd1 : ds.length = 1 := by omega
 match ds, hd1 with
 | [d], _ =>
  refine ⟨d, rfl, ?_⟩
  have h0 := h5 0 (by omega) (by simp)
  rw [hall 0 (by omega), g2] at h0
  exact h0
def FnR (C : Cx) (B : Nat) (w : World) (S : Stab) (β : Pl) (H : Heap) (v : PV) (H' : Heap) (e : Ending) (w' : World) : Prop :=
 ∃ u S' β', e = .returned u ∧ Ext B w S w' S' ∧ Swf w' S' ∧ HOK C B w' S' β' H' ∧ Lb H.length β β' ∧ RelV C w' S' β' v u ∧ H.length ≤ H'.length
theorem fn_wp (hO : OrOK P C N E) (hN : NOK P N C E.G) {n : Nat} {F : PF} {fn : Func} {c : Code} (f4 : digRs P fn.results.toList = some F.results) (f5 : bare F.body = digC P N c) (f6 : dstsB (F.nargs + (fn.ntmps - F.nargs)) false F.body = true) (f7 : F.nargs + (fn.ntmps - F.nargs) ≤ gh)
  {args : List PV} {v : PV} {H' : Heap} (h : evalF E (lpN n) F args H = some (v, H')) {us : List Value} (hS : Swf w S) (hG : GOK N E.G w S) (hB : B ≤ w.heap.size) (hH : HOK C B w S β H)
  (hl : args.length = us.length) (hr : ∀ j (h : j < args.length) (h' : j < us.length), RelV C w S β args[j] us[j]) (hY : YOK P C N E.G E.yld B w S β H.length) (nf : Nat) :
  c.wpIn (FR none) nf P (bodyPostM (FR none) nf P fn (FnR C B w S β H v H')) { tmps := us.toArray ++ Array.replicate (fn.ntmps - us.toArray.size) undef, defers := [] } w := by
 unfold evalF at h
 split at h
 ·rename_i hn
  have hsz : us.toArray.size = F.nargs := by simp; omega
  have hI : Inv P N C E B H.length (F.nargs + (fn.ntmps - F.nargs)) ⟨Fr.ofArgs 0 args, H⟩ { tmps := us.toArray ++ Array.replicate (fn.ntmps - us.toArray.size) undef, defers := [] } w S β := by
   refine ⟨hS, hG, hB, hH, ?_, by simp only [Array.size_append, Array.size_replicate, hsz], ?_, ⟨H.length, Nat.le_refl _, hY⟩, Nat.le_refl _⟩
   ·intro t
    rw [get_ofArgs]
    simp only [Nat.zero_le, if_true, Nat.sub_zero]
    by_cases ht : t < args.length
    ·rw [List.getD, List.getElem?_eq_getElem ht, Option.getD_some]
     have ht' : t < us.length := by omega
     have : (us.toArray ++ Array.replicate (fn.ntmps - us.toArray.size) undef).getD t undef = us[t] := by
      rw [Array.getD_eq_getD_getElem?, Array.getElem?_append_left (by simpa using ht')]
      simp [ht']
     rw [this]
     exact hr t ht ht'
    ·rw [List.getD, List.getElem?_eq_none (by omega), Option.getD_none]
     exact .u _
   ·refine ⟨[], List.nodup_nil, fun t ht => absurd ht (List.not_mem_nil), fun t ht hne => absurd ?_ hne, rfl, fun j hj => absurd hj (Nat.not_lt_zero _)⟩
    show (Fr.ofArgs 0 args).get t = .u
    rw [get_ofArgs]
    simp only [Nat.zero_le, if_true, Nat.sub_zero]
    rw [List.getD, List.getElem?_eq_none (by omega), Option.getD_none]
  have last : ∀ (fr : Fr) (H2 : Heap) (vs : List PV) (tmps : Array Value) (w' : World) (S' : Stab) (β' : Pl), Swf w' S' → HOK C B w' S' β' H2 → (∀ t, RelV C w' S' β' (fr.get t) (tmps.getD t undef)) → Ext B w S w' S' → Lb H.length β β' → H.length ≤ H2.length → Sim.results fr H2 F.results = some vs → packed vs = v → H2 = H' →
    LeavesInM (FR none) nf P fn tmps (FnR C B w S β H v H') [] .returning w' := by
   rintro fr H2 vs tmps w' S' β' g1 g2 g3 g4 g5 g6 hvs rfl rfl
   obtain ⟨us', e1, e2, e3⟩ := results_sound (a := { tmps := tmps, defers := [] }) g2 g3 f4 hvs
   refine ⟨(if h : us'.toArray.size = 1 then us'.toArray[0] else .tuple us'.toArray), ?_, _, S', β', rfl, g4, g1, g2, g5, packed_rel e2 e3, g6⟩
   have e4 : (fn.results.mapM (resOf tmps)).run P w' = .ok us'.toArray w' := by
    rw [Array.mapM_eq_mapM_toList, Sem.run_map, e1]
    rfl
   unfold Go.results
   rw [Sem.run_bind]
   show Result.andThen ((fn.results.mapM (resOf tmps)).run P w') _ = _
   rw [e4]
   rfl
  have fin : ∀ (s : St) (H2 : Heap) (vs : List PV) (a' : Act) (w' : World) (S' : Stab) (β' : Pl), Inv P N C E B H.length (F.nargs + (fn.ntmps - F.nargs)) s a' w' S' β' → Ext B w S w' S' → Lb H.length β β' → runG E (ghosts s.fr) s.H = some H2 → Sim.results s.fr H2 F.results = some vs → packed vs = v → H2 = H' →
    LeavesInM (FR none) nf P fn a'.tmps (FnR C B w S β H v H') a'.defers .returning w' := by
   intro s H2 vs a' w' S' β' hI' g1 g2 hg hvs hpk hH2
   unfold runG at hg
   split at hg
   ·rename_i hgs
    simp only [Option.some.injEq] at hg
    rw [df_nil hI'.defers hgs]
    rw [← hg] at hvs hH2
    exact last s.fr s.H vs a'.tmps w' S' β' hI'.swf hI'.hok hI'.fok g1 g2 hI'.base hvs hpk hH2
   ·rename_i o hgs
    split at hg
    ·rename_i hob
     simp only [Option.some.injEq] at hg
     obtain ⟨d, hd, hr⟩ := df_one hI'.defers hgs (by simp)
     obtain ⟨r, rfl, hb⟩ := hr
     have hb : β' o = .sp r .defer := by
      rcases hb with hb | hb
      ·exact hb
      ·rw [hI'.hok.dead o hb] at hob; cases hob
     obtain ⟨-, y, k1, k2⟩ := hI'.hok.sp o r _ hb
     rw [hob] at k1
     cases k1
     have k2 : w'.heap[r]? = some (.deferred (some [])) := k2
     obtain ⟨e4, h4, l4⟩ := hok_shut hI'.hok hI'.swf hb (.deferred none)
     rw [hd]
     refine ⟨by simp, .inl ⟨r, _, rfl, run_takeDeferred k2, ?_⟩⟩
     rw [← hg] at hvs hH2
     refine last s.fr _ vs a'.tmps _ S' _ (hI'.swf.ext e4) h4 (fun t => (hI'.fok t).ext e4 l4) (g1.trans e4) (g2.trans fun o' ho' => ?_) (by rw [put_length]; exact hI'.base) hvs hpk hH2
     refine ⟨l4 o', fun hp => ?_⟩
     have hne : o' ≠ o := fun hq => by subst hq; rw [hb] at hp; cases hp
     rw [upd_ne hne]; exact hp
    ·cases hg
   ·rename_i m caps hgs
    split at hg
    case isFalse => cases hg
    rename_i hdok
    split at hg
    ·rename_i rv H3 href
     simp only [Option.some.injEq] at hg
     subst hg
     obtain ⟨d, hd, hr⟩ := df_one hI'.defers hgs (by simp)
     obtain ⟨us', rfl, q2, q3⟩ := hr
     obtain ⟨fn', z1, z2, z3⟩ := hO.fn _ _ _ _ href
     rw [hd]
     refine ⟨by simp, .inr ⟨(fun h => by simp [FR, Fence.wide] at h), .func (C.μ m), us'.toArray, C.μ m, us'.toArray, rfl, ?_, fun _ _ => trivial, ?_⟩⟩
     ·simp only [invoke, Array.empty_append]
      exact run_call_func z1 z2 z3 _
     ·refine CallsDIn.mono (hO.dfr _ _ _ _ _ hdok href B w' S' β' us' .returning (nf - 1) hI'.hB hI'.swf hI'.gok hI'.hok q2 q3) ?_
      rintro e u' w3 ⟨rfl, u, S3, β3, rfl, e3, hS3, hH3, lat3, -, hl3, kp3⟩
      refine last s.fr H3 vs a'.tmps w3 S3 β3 hS3 hH3 (fun t => (hI'.fok t).ext e3 lat3) (g1.trans e3) (g2.trans fun o' ho' => ⟨lat3 o', fun hp => kp3 o' ?_ ?_ hp⟩) (Nat.le_trans hI'.base hl3) hvs hpk hH2
      ·have := hI'.base; omega
      ·have := hI'.base; omega
    ·cases hg
   ·cases hg
  split at h
  ·rename_i s hs
   split at h
   ·rename_i H2 hg
    split at h
    ·rename_i vs hvs
     simp only [Option.some.injEq, Prod.mk.injEq] at h
     refine code_sound hO hN f7 F.body c f5 H.length none nf f6 _ s .norm _ w S β _ hs hI ?_
     intro a' w' S' β' hI' g1 g2
     exact fin s H2 vs a' w' S' β' hI' g1 g2 hg hvs h.1 h.2
    ·cases h
   ·cases h
  ·rename_i s hs
   split at h
   ·rename_i H2 hg
    split at h
    ·rename_i vs hvs
     simp only [Option.some.injEq, Prod.mk.injEq] at h
     refine code_sound hO hN f7 F.body c f5 H.length none nf f6 _ s .ret _ w S β _ hs hI ?_
     intro a' w' S' β' hI' g1 g2
     exact fin s H2 vs a' w' S' β' hI' g1 g2 hg hvs h.1 h.2
    ·cases h
   ·cases h
  ·cases h
 ·cases h
theorem fn_sound (hO : OrOK P C N E) (hN : NOK P N C E.G) {n : Nat} {f : FuncId} {F : PF} (hF : FnOK P N f F) {args : List PV} {v : PV} {H' : Heap} (h : evalF E (lpN n) F args H = some (v, H')) {us : List Value} (hS : Swf w S) (hG : GOK N E.G w S) (hB : B ≤ w.heap.size) (hH : HOK C B w S β H)
  (hl : args.length = us.length) (hr : ∀ j (h : j < args.length) (h' : j < us.length), RelV C w S β args[j] us[j]) (hY : YOK P C N E.G E.yld B w S β H.length) : Calls P f us.toArray w (FnR C B w S β H v H') := by
 obtain ⟨fn, c, f1, -, f3, f4, f5, f6, f7⟩ := hF
 exact (callsIn_wide (n := 0)).1 (callsIn_of_wp_marks f1 f3 trivial (fn_wp hO hN f4 f5 f6 f7 h hS hG hB hH hl hr hY 0))
theorem fn_soundD (hO : OrOK P C N E) (hN : NOK P N C E.G) {n : Nat} {f : FuncId} {F : PF} (hF : FnOK P N f F) {args : List PV} {v : PV} {H' : Heap} (h : evalF E (lpN n) F args H = some (v, H')) {us : List Value} (hS : Swf w S) (hG : GOK N E.G w S) (hB : B ≤ w.heap.size) (hH : HOK C B w S β H)
  (hl : args.length = us.length) (hr : ∀ j (h : j < args.length) (h' : j < us.length), RelV C w S β args[j] us[j]) (hY : YOK P C N E.G E.yld B w S β H.length) (u : FrameMode) (nf : Nat) : CallsDIn Fence.wide nf P f us.toArray u w fun e u' w' => u' = u ∧ FnR C B w S β H v H' e w' := by
 obtain ⟨fn, c, f1, -, f3, f4, f5, f6, f7⟩ := hF
 exact callsD_marks f1 f3 (fn_wp hO hN f4 f5 f6 f7 h hS hG hB hH hl hr hY nf)
end
end Go.Sim
end
section
open Go.RowKit
namespace Go.Sim
section
variable {P : Program} {N : Names} {C : Cx} {w : World} {S : Stab} {β : Pl} {B : Nat} {H : Heap} {a : Act} {E : Env}
structure TabOK (P : Program) (N : Names) (C : Cx) (T : Tab) : Prop where
 names : NOK P N C T.G
 f : ∀ f F, T.F f = some F → FnOK P N (C.μ f) F
 x : ∀ f ds r own, T.F f = none → T.X f ds = some (r, own) → CallV P C N T.G f ds r own
 r : ∀ f args H r H', T.F f = none → T.R f args H = some (r, H') → CallR P C N T.G f args H r H'
 rf : ∀ f args H r, T.F f = none → T.R f args H = some r → ∃ fn, P.funcs[C.μ f]? = some fn ∧ fn.body.isNone = false ∧ fn.name ≠ "runtime.NumGoroutine"
 xf : ∀ f ds r, T.F f = none → T.X f ds = some r → ∃ fn, P.funcs[C.μ f]? = some fn ∧ fn.body.isNone = false ∧ fn.name ≠ "runtime.NumGoroutine"
theorem purT_sound {w0 : World} {S0 : Stab} {v r : PV} {own : Bool} {u : Value} (h : purT H v = some (r, own)) (hS : Swf w S) (hH : HOK C w0.heap.size w S β H) (he : Ext w0.heap.size w0 S0 w S) (hv : RelV C w S β v u) :
  ∃ S', Ext w0.heap.size w0 S0 w S' ∧ Swf w S' ∧ (own = false → RelV C w S' (fun _ => .pend) r u) ∧ (own = true → ∃ k es, r = .d (.l k es false) ∧ OwnedBy w S' k es u w0.heap.size) := by
 have frozen : ∀ os, Ext w0.heap.size w0 S0 w (FSq β H os S) ∧ Swf w (FSq β H os S) := fun os => ⟨he.trans (freeze_ext hH os), freeze_swf hH hS os⟩
 unfold purT at h
 split at h
 ·split at h
  ·rename_i xs os hp
   cases h
   cases hv with
   | t _ us h1 h2 =>
   obtain ⟨h3, h4⟩ := purs_rel hH hp
   refine ⟨FSq β H os S, (frozen os).1, (frozen os).2, fun _ => .t _ us (by simp; omega) ?_, fun h => by cases h⟩
   intro j hj hj'
   rw [List.getElem_map]
   exact .d _ _ (h4 us h2 j _ hj')
  ·cases h
 ·rename_i o k off len t
  split at h
  ·rename_i k' ro es ho
   split at h
   ·rename_i hc
    obtain ⟨rfl, hle⟩ := hc
    simp only [Option.some.injEq, Prod.mk.injEq] at h
    obtain ⟨rfl, hown⟩ := h
    cases hb : own with
    | false =>
     refine ⟨FSq β H [o] S, (frozen [o]).1, (frozen [o]).2, fun _ => ?_, fun h => by cases h⟩
     exact .d _ _ (purC_rel hH hv (by simp [purC, ho, hle]))
    | true =>
     rw [hb] at hown
     have hro : ro ≤ off := by simpa using hown
     refine ⟨S, he, hS, (fun h => by cases h), fun _ => ⟨_, _, rfl, ?_⟩⟩
     cases hv with
     | r _ _ _ _ _ _ h0 hx =>
     have hlen : ((es.drop off).take len).length = len := by simp; omega
     unfold RelRf at hx
     split at hx
     ·exact hx.elim
     ·rename_i hb; rw [hH.dead o hb] at ho; cases ho
     ·obtain ⟨rfl, rfl, a, rfl⟩ := hx
      exact .inl ⟨by simp, a, rfl⟩
     ·rename_i blk base k3 hb
      obtain ⟨e1, cap, a, rfl, e2, e3, e4, e', n, e5, e6⟩ := hx
      subst e1
      rcases Nat.eq_zero_or_pos cap with h0 | h0
      ·subst h0
       have : len = 0 := by omega
       subst this
       exact .inl ⟨by simp, some a, rfl⟩
      ·have := e2 h0
       subst this
       obtain ⟨hB, x, cells, e0, ho', hs, hw, hc⟩ := hH.live o blk base k3 hb
       rw [ho] at ho'
       cases ho'
       obtain ⟨q0, c, q1, q2, q3⟩ := hc
       have hcs : n = cells.size := by
        unfold World.shape? at e5
        rw [hw] at e5
        cases e5; rfl
       subst hcs
       refine .inr ⟨blk, base + off * k3.size, cap, cells, e0, by rw [hlen], by omega, hB, hw, by rw [Nat.add_assoc, ← Nat.add_mul]; exact e6, ?_, ?_⟩
       ·intro j hj
        refine q3 j ?_
        have : ro * k3.size ≤ off * k3.size := Nat.mul_le_mul_right _ hro
        omega
       ·refine ⟨?_, fun j => c (off + j), ?_, ?_⟩
        ·rw [hlen, List.length_drop, Array.length_toList]
         have : (off + len) * k3.size ≤ (off + cap) * k3.size := Nat.mul_le_mul_right _ (by omega)
         rw [Nat.add_mul] at this
         omega
        ·intro j hj m hm
         have := q1 (off + j) (by omega) m hm
         rw [Nat.add_mul] at this
         rw [List.getElem?_drop]
         have e7 : base + off * k3.size + (j * k3.size + m) = base + (off * k3.size + j * k3.size) + m := by omega
         rw [e7]
         simpa using this
        ·intro j hj
         have := q2 (off + j) (by omega)
         simpa [List.getElem_drop, List.getElem_take] using this
     ·exact hx.elim
   ·cases h
  ·cases h
 ·rename_i k es
  simp only [Option.some.injEq, Prod.mk.injEq] at h
  obtain ⟨rfl, hown⟩ := h
  cases hv with
  | d _ _ hv =>
  refine ⟨S, he, hS, fun _ => ?_, fun h1 => ⟨k, es, rfl, ?_⟩⟩
  ·cases hv with
   | l _ _ _ a cap blk off c c1 c2 c3 c4 c5 => exact .d _ _ (.l _ _ false a cap blk off c c1 (fun h => by cases h) c3 c4 c5)
  ·rw [h1] at hown
   have : es = [] := by simpa using hown
   subst this
   cases hv with
   | l _ _ _ a cap blk off c c1 c2 c3 c4 c5 =>
   have := c2 rfl
   subst this
   exact .inl ⟨rfl, a, rfl⟩
 ·split at h
  ·rename_i x os hp
   cases h
   exact ⟨FSq β H os S, (frozen os).1, (frozen os).2, fun _ => .d _ _ (pur_rel hH hv hp), fun h => by cases h⟩
  ·cases h
theorem fnR_gc {v r : PV} {H1 H' : Heap} {e : Ending} {w' : World} (hH : HOK C B w S β H) (h : FnR C B w S β H v H1 e w') (hg : gcV H.length v H1 = (r, H')) :
  ∃ u S' β', e = .returned u ∧ Ext B w S w' S' ∧ Swf w' S' ∧ HOK C B w' S' β' H' ∧ Later β β' ∧ RelV C w' S' β' r u ∧ H.length ≤ H'.length ∧ Kp H.length H.length β β' := by
 obtain ⟨u, S', β', rfl, e1, e2, e3, e4, e5, e6⟩ := h
 obtain ⟨β2, k1, k2, k3, k4⟩ := gcV_hok e3 e5 e6
 rw [hg] at k1 k2 k4
 have hlb := e4.trans k3
 exact ⟨u, S', β2, rfl, e1, e2, k1, later_of_lb hlb (fun o ho => hH.out o ho), k2, k4, fun o ho _ hp => (hlb o ho).2 hp⟩
theorem orok_y {T : Tab} {n : Nat} (h : OrOK P C N (envN T n)) (Y : Nat → List PV → Heap → Option (PV × Heap)) : OrOK P C N (envY T n Y) := ⟨h.val, h.ref, h.dfr, h.it, h.fni, h.fnv, h.fn⟩
theorem tab_sound {T : Tab} (hT : TabOK P N C T) : ∀ n, OrOK P C N (envN T n) := by
 intro n
 induction n with
 | zero => exact ⟨fun f ds r own h => by simp [envN, envY, valN] at h, fun f args H r H' h => by simp [envN, envY, refN, itN] at h, fun f args H r H' hd h => by simp [envN, envY, refN, itN] at h, fun Y f args H r H' h => by simp [envN, envY, itN] at h, fun Y f args H r h => by simp [envN, envY, itN] at h, fun f ds r h => by simp [envN, envY, valN] at h, fun f args H r h => by simp [envN, envY, refN, itN] at h⟩
 | succ n ih =>
  have fni : ∀ Y f args H r, itN T (n + 1) Y f args H = some r → ∃ fn, P.funcs[C.μ f]? = some fn ∧ fn.body.isNone = false ∧ fn.name ≠ "runtime.NumGoroutine" := by
   intro Y f args H r h
   rw [itN_succ] at h
   cases hF : T.F f with
   | none => rw [hF] at h; exact hT.rf _ _ _ _ hF h
   | some F =>
    obtain ⟨fn, c, f1, f2, f3, -⟩ := hT.f f F hF
    exact ⟨fn, f1, by rw [f3]; rfl, f2⟩
  have it : ∀ Y f args H r H', itN T (n + 1) Y f args H = some (r, H') → CallI P C N T.G Y f args H r H' := by
   intro Y f args H r H' h
   rw [itN_succ] at h
   cases hF : T.F f with
   | none =>
    rw [hF] at h
    intro B w S β us hB hS hG hH hl hr hY
    exact hT.r _ _ _ _ _ hF h B w S β us hB hS hG hH hl hr
   | some F =>
    rw [hF] at h
    simp only at h
    split at h
    ·rename_i v H1 he
     simp only [Option.some.injEq] at h
     intro B w S β us hB hS hG hH hl hr hY
     refine (fn_sound (orok_y ih Y) hT.names (hT.f f F hF) he hS hG hB hH hl hr hY).mono ?_
     intro e w' hR
     exact fnR_gc hH hR h
    ·cases h
  refine ⟨?_, fun f args H r H' h B w S β us hB hS hG hH hl hr => it noY f args H r H' h B w S β us hB hS hG hH hl hr yok_no, ?_, it, fni, ?_, fun f args H r h => fni noY f args H r h⟩
  ·intro f ds r own h
   change valN T (n + 1) f ds = some (r, own) at h
   rw [valN_succ] at h
   cases hF : T.F f with
   | none => rw [hF] at h; exact hT.x f ds r own hF h
   | some F =>
    rw [hF] at h
    simp only at h
    split at h
    ·rename_i v H' he
     intro w S us hS hG hl hr
     have h0 : HOK C w.heap.size w S (fun _ => .pend) [] := ⟨(fun o blk base k h => by cases h), (fun o h => by cases h), (fun o h => by cases h), (fun o o' blk base k base' k' h => by cases h), fun _ _ => rfl, (fun o blk x h => by cases h), (fun o o' blk x x' h => by cases h)⟩
     have := fn_sound ih hT.names (hT.f f F hF) (args := ds.map .d) (H := []) he hS hG (Nat.le_refl _) h0 (by simpa using hl) (fun j hj hj' => by
      rw [List.getElem_map]; exact .d _ _ (hr j (by simpa using hj) hj')) yok_no
     refine this.mono ?_
     rintro e w' ⟨u, S', β', rfl, e1, e2, e3, -, e5, -⟩
     obtain ⟨S2, q1, q2, q3, q4⟩ := purT_sound h e2 e3 e1 e5
     exact ⟨u, S2, rfl, q1, q2, q3, q4⟩
    ·cases h
  ·intro f args H r H' hd h
   change itN T (n + 1) noY f args H = some (r, H') at h
   rw [itN_succ] at h
   cases hF : T.F f with
   | none => simp [envN, envY, Tab.dok, hF] at hd
   | some F =>
    rw [hF] at h
    simp only at h
    split at h
    ·rename_i v H1 he
     simp only [Option.some.injEq] at h
     intro B w S β us u nf hB hS hG hH hl hr
     refine CallsDIn.mono (fn_soundD (orok_y ih noY) hT.names (hT.f f F hF) he hS hG hB hH hl hr yok_no u nf) ?_
     rintro e u' w' ⟨rfl, hR⟩
     exact ⟨rfl, fnR_gc hH hR h⟩
    ·cases h
  ·intro f ds r h
   change valN T (n + 1) f ds = some r at h
   rw [valN_succ] at h
   cases hF : T.F f with
   | none => rw [hF] at h; exact hT.xf f ds r hF h
   | some F =>
    obtain ⟨fn, c, f1, f2, f3, -⟩ := hT.f f F hF
    exact ⟨fn, f1, by rw [f3]; rfl, f2⟩
theorem val_calls {T : Tab} (hT : TabOK P N C T) {f : Nat} {ds : List DV} {r : PV} {own : Bool} (h : T.val f ds = some (r, own)) : CallV P C N T.G f ds r own := by
 obtain ⟨n, hn⟩ := (val_some T f ds (r, own)).1 h
 exact (tab_sound hT n).val f ds r own hn
theorem law_calls {T : Tab} (hT : TabOK P N C T) {f : Nat} {ds : List DV} {own : Bool} (h : T.val f ds = some (.d (.b true), own)) {us : List Value} (hS : Swf w S) (hG : GOK N T.G w S) (hl : ds.length = us.length) (hr : ∀ j (h : j < ds.length) (h' : j < us.length), RelD w S ds[j] us[j]) :
  Calls P (C.μ f) us.toArray w fun e w' => e = .returned (.bool true) ∧ Below w.heap.size w w' := by
 refine (val_calls hT h w S us hS hG hl hr).mono ?_
 rintro e w' ⟨u, S', rfl, e1, -, e3, e4⟩
 cases own with
 | false => exact ⟨by rw [bool_rel (e3 rfl)], e1.below⟩
 | true => obtain ⟨k, es, h, -⟩ := e4 rfl; cases h
end
end Go.Sim
end
section
open Go.RowKit
namespace Go.Sim
section
variable {P : Program} {N : Names} {C : Cx} {w : World} {S : Stab} {β : Pl} {B : Nat} {H : Heap} {a : Act} {E : Env}
def CloneOK (P : Program) (N : Names) (f : FuncId) (k : K) (b : Nat) : Prop :=
 ∃ (fn : Func) (T e T' : TypeId) (z : DV) (k0 : K) (i0 i1 i2 i3 : Nat) (o0 o1 o2 o3 : Oper) (O4 : Array Oper), P.funcs[f]? = some fn ∧
  fn.body = some (.seq (.region i0 #[o0] false) (.seq (.seq (.region i1 #[o1, o2] false) (.cond (.tmp 4) (.seq (.region i2 #[o3] false) .ret) .skip)) (.seq (.region i3 O4 false) .ret))) ∧
  P.underlying T = some (.slice e) ∧ fn.results.toList = [.tmp 2] ∧ fn.ntmps = 8 ∧
  digO P N #[o0] o0 = ⟨some 2, .mov (.c (.l k0 [] true)), none⟩ ∧ o1.dst = some 3 ∧ o1.op = .move (.tmp 0) ∧ o1.guard = none ∧ o2.dst = some 4 ∧ o2.op = .binOp .eql T (.tmp 3) (.const (.slice none 0 0)) T' ∧ o2.guard = none ∧
  digO P N #[o3] o3 = ⟨some 2, .mov (.c (.l k [] true)), none⟩ ∧
  O4.toList.map (digO P N O4) = [⟨some 5, .bsl k z 0 [], none⟩, ⟨some 6, .mov (.t 0), none⟩, ⟨some 7, .app k b (.t 5) (.t 6), none⟩, ⟨some 2, .mov (.t 7), none⟩]
def noE (G : Nat → Option (DV × K)) : Env := { G := G, val := fun _ _ => none, ref := fun _ _ _ => none, yld := noY, it := fun _ _ _ _ => none, dok := fun _ => false }
theorem noE_ok (G : Nat → Option (DV × K)) : OrOK P C N (noE G) := ⟨(fun f ds r own h => by cases h), (fun f args H r H' h => by cases h), (fun f args H r H' hd h => by cases h), (fun Y f args H r H' h => by cases h), (fun Y f args H r h => by cases h), (fun f ds r h => by cases h), (fun f args H r h => by cases h)⟩
theorem K.eq_refl (k : K) : K.eq k k = true := by cases k <;> simp [K.eq]
theorem clone_calls {G : Nat → Option (DV × K)} (hN : NOK P N C G) {f : Nat} {k : K} {b : Nat} (hc : CloneOK P N (C.μ f) k b) {ds : List DV} {r : PV} {own : Bool} (h : cloneX k b ds = some (r, own)) : CallV P C N G f ds r own := by
 unfold cloneX at h
 split at h
 case h_2 => cases h
 rename_i k' es t
 split at h
 case isFalse => cases h
 rename_i hck
 simp only [Option.some.injEq, Prod.mk.injEq] at h
 obtain ⟨rfl, rfl⟩ := h
 simp only [Bool.and_eq_true, Bool.or_eq_true, decide_eq_true_eq, List.isEmpty_iff] at hck
 obtain ⟨hk, hb⟩ := hck
 intro w S us hS hG hl hr
 obtain ⟨fn, T, e, T', z, k0, i0, i1, i2, i3, o0, o1, o2, o3, O4, f1, f2, f3, f4, f5, f6, f7, f8, f9, f10, f11, f12, f13, f14⟩ := hc
 have hus : us.length = 1 := by simpa using hl.symm
 have h0 : HOK C w.heap.size w S (fun _ => .pend) [] := ⟨(fun o blk base k h => by cases h), (fun o h => by cases h), (fun o h => by cases h), (fun o o' blk base k base' k' h => by cases h), fun _ _ => rfl, (fun o blk x h => by cases h), (fun o o' blk x x' h => by cases h)⟩
 refine (calls_FR (ro := none) (nf := 0)).1 (callsIn_of_wp (F := FR none) f1 f2 trivial ?_)
 have hOO : OrOK P C N (noE G) := noE_ok G
 have hNN : NOK P N C (noE G).G := hN
 have hI : Inv P N C (noE G) w.heap.size 0 8 ⟨[(0, .d (.l k' es t))], []⟩ { tmps := us.toArray ++ Array.replicate (fn.ntmps - us.toArray.size) undef, defers := [] } w S (fun _ => .pend) := by
  refine ⟨hS, hG, Nat.le_refl _, h0, ?_, by simp [hus, f5], ⟨[], List.nodup_nil, fun t ht => absurd ht (List.not_mem_nil), fun t ht hne => absurd ?_ hne, rfl, fun j hj => absurd hj (Nat.not_lt_zero _)⟩, ⟨0, Nat.le_refl _, yok_no⟩, Nat.le_refl _⟩
  rotate_left
  ·show (if 0 = t then _ else PV.u) = .u
   rw [if_neg (by unfold gh at ht; omega)]
  intro t'
  simp only [Fr.get]
  split
  ·rename_i ht; subst ht
   have := hr 0 (by simp) (by omega)
   simp only [List.getElem_cons_zero] at this
   have e1 : (us.toArray ++ Array.replicate (fn.ntmps - us.toArray.size) undef).getD 0 undef = us[0] := by
    rw [Array.getD_eq_getD_getElem?, Array.getElem?_append_left (by simp [hus])]
    simp [hus]
   rw [e1]; exact .d _ _ this
  ·exact .u _
 have fin : ∀ (s : St) (v : PV) (a' : Act) (w' : World) (S' : Stab) (β' : Pl), Inv P N C (noE G) w.heap.size 0 8 s a' w' S' β' → Ext w.heap.size w S w' S' → s.fr.get 2 = v → ghosts s.fr = [] → purT s.H v = some (.d (.l k es false), true) →
   bodyPost P fn (fun e w' => ∃ v S', e = .returned v ∧ Ext w.heap.size w S w' S' ∧ Swf w' S' ∧ (true = false → RelV C w' S' (fun _ => .pend) (.d (.l k es false)) v) ∧ (true = true → ∃ k2 es2, PV.d (.l k es false) = .d (.l k2 es2 false) ∧ OwnedBy w' S' k2 es2 v w.heap.size)) .ret a' w' := by
  intro s v a' w' S' β' hI' g1 hv hgs hp
  have hd : digRs P fn.results.toList = some [.t 2] := by rw [f4]; rfl
  obtain ⟨us', e1, e2, e3⟩ := results_sound hI'.hok hI'.fok hd (vs := [v]) (by simp [Sim.results, hv])
  have hlu : us'.length = 1 := by simpa using e2.symm
  have e4 : (fn.results.mapM (resOf a'.tmps)).run P w' = .ok us'.toArray w' := by
   rw [Array.mapM_eq_mapM_toList, Sem.run_map, e1]
   rfl
  obtain ⟨S2, q1, q2, q3, q4⟩ := purT_sound hp hI'.swf hI'.hok g1 (e3 0 (by simp) (by omega))
  refine ⟨?_, us'[0], ?_, us'[0], S2, rfl, q1, q2, q3, q4⟩
  ·exact df_nil hI'.defers hgs
  unfold Go.results
  rw [Sem.run_bind]
  show Result.andThen ((fn.results.mapM (resOf a'.tmps)).run P w') _ = _
  rw [e4]
  simp [hlu]
 revert fin
 generalize bodyPost P fn _ = QQ
 intro fin
 refine wpIn_seq ?_
 refine code_sound (n := 0) hOO hNN (by decide : 8 ≤ gh) (.reg [⟨some 2, .mov (.c (.l k0 [] true)), none⟩] []) (.region i0 #[o0] false) (by simp [digC, bare, f6]) 0 none 0 rfl _ ⟨[(2, .d (.l k0 [] true)), (0, .d (.l k' es t))], []⟩ .norm _ w S _ _ (by simp [evalC, evalReg, evalOps, nadds, IOp.adds, evalOp, rd, Fr.set, Fr.drop]) hI ?_
 intro a1 w1 S1 β1 hI1 g1 _
 refine wpIn_seq (wpIn_seq (wpIn_region ?_))
 have hw1 : ∀ a : Act, Region.wanted o1 (yielded #[o1, o2] a.tmps) = true := fun a => by simp [Region.wanted, f9]
 have hw2 : ∀ a : Act, Region.wanted o2 (yielded #[o1, o2] a.tmps) = true := fun a => by simp [Region.wanted, f12]
 show wpOpsIn (FR none) 0 P #[o1, o2] _ [0, 1] a1 w1
 simp only [wpOpsIn, List.getElem?_toArray, List.getElem?_cons_zero, List.getElem?_cons_succ, hw1, hw2, if_true]
 refine wp_value (w' := w1) (u := a1.eval (.tmp 0)) (fun c h => by rw [f8] at h; cases h) (by simp [execOp, f8]) ?_
 rw [f7]
 have hv0 := hI1.fok 0
 simp only [Fr.get, if_true] at hv0
 have hF2 : FOK C w1 S1 β1 _ (a1.put (some 3) (a1.eval (.tmp 0))) := hI1.fok.put (d := 3) (by rw [hI1.size]; omega) hv0
 have hv3 := hF2 3
 rw [get_set, if_pos rfl] at hv3
 obtain ⟨av, cap, hav, hcap, hnil⟩ : ∃ av cap, (a1.put (some 3) (a1.eval (.tmp 0))).eval (.tmp 3) = .slice av es.length cap ∧ (t = true → cap = es.length) ∧ (0 < es.length → ∃ p, av = some p) := by
  change RelV C w1 S1 β1 _ ((a1.put (some 3) (a1.eval (.tmp 0))).eval (.tmp 3)) at hv3
  generalize (a1.put (some 3) (a1.eval (.tmp 0))).eval (.tmp 3) = v3 at hv3
  cases hv3 with
  | d _ _ hv3 =>
  cases hv3 with
  | l _ _ _ av cap blk off c c1 c2 c3 c4 c5 => exact ⟨av, cap, rfl, c2, fun h => ⟨_, c3 h⟩⟩
 have hexec : (execOp (a1.put (some 3) (a1.eval (.tmp 0))).eval o2).run P w1 = .ok (.value (.bool av.isNone)) w1 := by
  simp only [execOp, f11, hav]
  refine run_v ?_
  have e1 : (a1.put (some 3) (a1.eval (.tmp 0))).eval (.const (.slice none 0 0)) = .slice none 0 0 := rfl
  rw [e1]
  have e2 : (eqGuard .eql T (.tmp 3) (.const (.slice none 0 0)) (.slice av es.length cap) (.slice none 0 0)).run P w1 = .ok () w1 := by simp [eqGuard]
  simp only [Sem.run_bind, e2, Result.andThen_ok, run_eql_slice_nil w1 T e av es.length cap f3]
 refine wp_value (fun c h => by rw [f11] at h; cases h) hexec ?_
 rw [f10]
 have hF3 := hF2.put (d := 4) (v := .d (.b av.isNone)) (u := .bool av.isNone) (by simp [Act.put, hI1.size]) (.d _ _ (.b _))
 generalize ha2 : ((a1.put (some 3) (a1.eval (.tmp 0))).put (some 4) (.bool av.isNone)) = a2 at *
 have hI2 : Inv P N C (noE G) w.heap.size 0 8 ⟨[(4, .d (.b av.isNone)), (3, .d (.l k' es t)), (2, .d (.l k0 [] true)), (0, .d (.l k' es t))], []⟩ a2 w1 S1 β1 := by
  refine ⟨hI1.swf, hI1.gok, hI1.hB, hI1.hok, hF3, ?_, ?_, hI1.yok, Nat.le_refl _⟩
  ·rw [← ha2]; simp [Act.put, hI1.size]
  ·rw [← ha2]
   refine hI1.defers.frame fun t ht => ?_
   unfold gh at ht
   simp only [Fr.get]
   repeat rw [if_neg (by omega)]
 have hcond : a2.eval (.tmp 4) = .bool av.isNone := by
  have := hI2.fok 4
  simp only [Fr.get] at this
  exact bool_rel this
 show (Code.cond _ _ _).wpIn (FR none) 0 P _ a2 w1
 cases hav2 : av with
 | none =>
  rw [hav2] at hcond
  have hes : es = [] := by
   cases es with
   | nil => rfl
   | cons x xs => obtain ⟨p, hp⟩ := hnil (by simp); rw [hav2] at hp; cases hp
  subst hes
  refine wpIn_cond_true hcond ?_
  refine code_sound (n := 0) hOO hNN (by decide : 8 ≤ gh) (.seq (.reg [⟨some 2, .mov (.c (.l k [] true)), none⟩] []) .ret) (.seq (.region i2 #[o3] false) .ret) (by simp [digC, bare, f13]) 0 none 0 rfl _ ⟨[(4, .d (.b av.isNone)), (3, .d (.l k' [] t)), (2, .d (.l k [] true)), (0, .d (.l k' [] t))], []⟩ .ret _ w1 S1 _ _ (by simp [evalC, evalReg, evalOps, nadds, IOp.adds, evalOp, rd, Fr.set, Fr.drop]) hI2 ?_
  intro a3 w3 S3 β3 hI3 g3 _
  exact fin _ _ a3 w3 S3 β3 hI3 (g1.trans g3) rfl rfl (by simp [purT, Fr.get])
 | some p =>
  rw [hav2] at hcond
  refine wpIn_cond_false hcond (wpIn_skip ?_)
  have hke : (K.eq k k' || es.isEmpty) = true := by
   rcases hk with hk | hk
   ·rw [hk]; simp
   ·simp [hk]
  have hb' : (0 + es.length) * b ≤ 2 ^ 47 := by rw [Nat.zero_add]; exact hb
  show (Code.seq _ _).wpIn (FR none) 0 P _ a2 w1
  cases hes : es with
  | nil =>
   subst hes
   refine code_sound (n := 0) hOO hNN (by decide : 8 ≤ gh) (.seq (.reg [⟨some 5, .bsl k z 0 [], none⟩, ⟨some 6, .mov (.t 0), none⟩, ⟨some 7, .app k b (.t 5) (.t 6), none⟩, ⟨some 2, .mov (.t 7), none⟩] []) .ret) (.seq (.region i3 O4 false) .ret) (by simp [digC, bare, f14]) 0 none 0 rfl _ ⟨[(7, .r 0 k 0 0 true), (6, .d (.l k' [] t)), (5, .r 0 k 0 0 true), (4, .d (.b av.isNone)), (3, .d (.l k' [] t)), (2, .r 0 k 0 0 true), (0, .d (.l k' [] t))], [some (.sl k 0 []), none]⟩ .ret _ w1 S1 _ _
    (by simp [evalC, evalReg, evalOps, nadds, IOp.adds, evalOp, rd, Fr.set, Fr.get, Fr.drop, bslA, frz, Heap.put, Heap.obj, appA, elemsA, K.eq_refl]) hI2 ?_
   intro a3 w3 S3 β3 hI3 g3 _
   exact fin _ _ a3 w3 S3 β3 hI3 (g1.trans g3) rfl rfl (by simp [purT, Heap.obj, Fr.get])
  | cons x xs =>
   rw [hes] at hke hb'
   have hkk : K.eq k k' = true := by simpa using hke
   subst hes
   refine code_sound (n := 0) hOO hNN (by decide : 8 ≤ gh) (.seq (.reg [⟨some 5, .bsl k z 0 [], none⟩, ⟨some 6, .mov (.t 0), none⟩, ⟨some 7, .app k b (.t 5) (.t 6), none⟩, ⟨some 2, .mov (.t 7), none⟩] []) .ret) (.seq (.region i3 O4 false) .ret) (by simp [digC, bare, f14]) 0 none 0 rfl _ ⟨[(7, .r 1 k 0 (0 + (x :: xs).length) false), (6, .d (.l k' (x :: xs) t)), (5, .r 0 k 0 0 true), (4, .d (.b av.isNone)), (3, .d (.l k' (x :: xs) t)), (2, .r 1 k 0 (0 + (x :: xs).length) false), (0, .d (.l k' (x :: xs) t))], [some (.sl k 0 []), some (.sl k 0 (x :: xs))]⟩ .ret _ w1 S1 _ _
    (by
     have hb2 : (xs.length + 1) * b ≤ 140737488355328 := by simpa using hb'
     simp [evalC, evalReg, evalOps, nadds, IOp.adds, evalOp, rd, Fr.set, Fr.get, Fr.drop, bslA, frz, Heap.put, Heap.obj, appA, elemsA, K.eq_refl, hkk, hb2]) hI2 ?_
   intro a3 w3 S3 β3 hI3 g3 _
   exact fin _ _ a3 w3 S3 β3 hI3 (g1.trans g3) rfl rfl (by simp [purT, Heap.obj, Fr.get])
end
end Go.Sim
end
section
open Go.RowKit
namespace Go.Sim
def nameOf (l : List (Nat × Nat × Nat)) (f : Nat) : Option (Nat × Nat) := match l with
 | [] => none
 | (g, x) :: r => if g = f then some x else nameOf r f
def muOf (l : List (Nat × Nat × Nat)) (n : Nat) : Nat := match l with
 | [] => 0
 | (g, k, _) :: r => if k = n then g else muOf r n
theorem nameOf_mem {f : Nat} {x : Nat × Nat} : ∀ {l : List (Nat × Nat × Nat)}, nameOf l f = some x → (f, x) ∈ l
 | [], h => by cases h
 | (g, y) :: r, h => by
  simp only [nameOf] at h
  split at h
  ·rename_i hg; subst hg; cases h; exact List.mem_cons_self ..
  ·exact List.mem_cons_of_mem _ (nameOf_mem h)
theorem nok_of {P : Program} {l : List (Nat × Nat × Nat)} {G : Nat → Option (DV × K)} {g : Nat → Nat} (hm : P.follows .mixedOrders = true) (h : (l.all fun x => muOf l x.2.1 == x.1) = true) : NOK P ⟨nameOf l, g⟩ ⟨muOf l⟩ G := by
 refine ⟨?_, hm⟩
 intro f x hx
 have := List.all_eq_true.1 h _ (nameOf_mem hx)
 simpa using this
def asciiL : List Int := [0, 0, 0, 0, 0, 0, 0, 0, 0, 1, 1, 1, 1, 1, 0, 0, 0, 0, 0, 0, 0, 0, 0, 0, 0, 0, 0, 0, 0, 0, 0, 0, 1, 0, 0, 0, 0, 0, 0, 0, 0, 0, 0, 0, 0, 0, 0, 0, 0, 0, 0, 0, 0, 0, 0, 0, 0, 0, 0, 0, 0, 0, 0, 0, 0, 0, 0, 0, 0, 0, 0, 0, 0, 0, 0, 0, 0, 0, 0, 0, 0, 0, 0, 0, 0, 0, 0, 0, 0, 0, 0, 0, 0, 0, 0, 0, 0, 0, 0, 0, 0, 0, 0, 0, 0, 0, 0, 0, 0, 0, 0, 0, 0, 0, 0, 0, 0, 0, 0, 0, 0, 0, 0, 0, 0, 0, 0, 0, 0, 0, 0, 0, 0, 0, 0, 0, 0, 0, 0, 0, 0, 0, 0, 0, 0, 0, 0, 0, 0, 0, 0, 0, 0, 0, 0, 0, 0, 0, 0, 0, 0, 0, 0, 0, 0, 0, 0, 0, 0, 0, 0, 0, 0, 0, 0, 0, 0, 0, 0, 0, 0, 0, 0, 0, 0, 0, 0, 0, 0, 0, 0, 0, 0, 0, 0, 0, 0, 0, 0, 0, 0, 0, 0, 0, 0, 0, 0, 0, 0, 0, 0, 0, 0, 0, 0, 0, 0, 0, 0, 0, 0, 0, 0, 0, 0, 0, 0, 0, 0, 0, 0, 0, 0, 0, 0, 0, 0, 0, 0, 0, 0, 0, 0, 0, 0, 0, 0, 0, 0, 0, 0, 0, 0, 0, 0, 0]
end Go.Sim
end
section
namespace Go.Proofs
open Go.Shelf Go.RowKit Go.Lib
variable {P : Program} {ρ : Ren}
structure InsL (P : Program) (f : FuncId) (ρ : Ren) (z : Nat) : Prop where
 mixed : P.follows .mixedOrders = true
 bears : Bears P f (Body2.n22 ρ)
 ov : ∃ fn, P.funcs[ρ.f 29]? = some fn ∧ (fn.name == "runtime.NumGoroutine") = false ∧ fn.body.isNone = true ∧ Extern.findNext fn = none ∧ Extern.find fn = some (Extern.SlicesOverlaps.overlaps #[ρ.t 24, ρ.t 24] #[ρ.t 4])
 t3 : P.underlying (ρ.t 3) = some (TypeDesc.int IntKind.i64)
 a3 : ∀ w, (isAgg (ρ.t 3)).run P w = .ok false w
 z3 : ∀ w, (Go.sizeOf (ρ.t 3)).run P w = .ok 1 w
 v3 : ∀ w, (zeroValue (ρ.t 3)).run P w = .ok (Value.int IntKind.i64 0) w
 t4 : P.underlying (ρ.t 4) = some (TypeDesc.bool)
 a4 : ∀ w, (isAgg (ρ.t 4)).run P w = .ok false w
 z4 : ∀ w, (Go.sizeOf (ρ.t 4)).run P w = .ok 1 w
 v4 : ∀ w, (zeroValue (ρ.t 4)).run P w = .ok (Value.bool false) w
 z9 : ∀ w, (Go.sizeOf (ρ.t 9)).run P w = .ok z w
 t24 : P.underlying (ρ.t 24) = some (TypeDesc.slice (ρ.t 9))
 a24 : ∀ w, (isAgg (ρ.t 24)).run P w = .ok false w
 z24 : ∀ w, (Go.sizeOf (ρ.t 24)).run P w = .ok 1 w
 v24 : ∀ w, (zeroValue (ρ.t 24)).run P w = .ok (Value.slice none 0 0) w
set_option maxHeartbeats 4000000 in
set_option maxRecDepth 100000 in
theorem ins_shift {f : FuncId} {z : Nat} (L : InsL P f ρ z) (b off n c i vb voff vc : Nat) (w W1 W2 : World) (hi : i < n) (hroom : n + 1 ≤ c) (hc63 : n + 1 ≤ 9223372036854775807) (hvb : vb ≠ b)
  (tA tB : TypeId) (kA kB : Nat) (hsa : w.shape? vb = some (tA, kA)) (hsb : w.shape? b = some (tB, kB)) (hkB : kB ≠ 0) (hfa : w.frozen? ⟨vb, voff, none⟩ = false) (hfe : w.frozen? ⟨vb, kA, none⟩ = false)
  (hcp1 : ∀ ty, (Builtin.copy_ #[(ρ.t 24), (ρ.t 24)] ty #[.slice (some ⟨b, off + (i + 1) * z, none⟩) (n - i) (c - (i + 1)), .slice (some ⟨b, off + i * z, none⟩) (n + 1 - i) (c - i)]).run P w.drew = .ok (goInt (n - i : Nat)) W1)
  (hcp2 : ∀ ty, (Builtin.copy_ #[(ρ.t 24), (ρ.t 24)] ty #[.slice (some ⟨b, off + i * z, none⟩) (n + 1 - i) (c - i), .slice (some ⟨vb, voff, none⟩) 1 vc]).run P W1 = .ok (goInt (1 : Nat)) W2) :
  Calls P f #[.slice (some ⟨b, off, none⟩) n c, .int .i64 i, .slice (some ⟨vb, voff, none⟩) 1 vc] w fun e w' => e = .returned (.slice (some ⟨b, off, none⟩) (n + 1) c) ∧ w' = W2 := by
 have t3 := L.t3; have a3 := L.a3; have z3 := L.z3; have v3 := L.v3; have t4 := L.t4; have a4 := L.a4; have z4 := L.z4; have v4 := L.v4; have z9 := L.z9; have t24 := L.t24; have a24 := L.a24; have z24 := L.z24; have v24 := L.v24
 have u3 := run_underlying L.t3; have u4 := run_underlying L.t4; have u24 := run_underlying L.t24
 have hz2 : ¬ ((i : Int) = (n : Int)) := by omega
 have hov : ∀ lb cb, (callFunc (ρ.f 29) #[.slice (some ⟨vb, voff, none⟩) 1 vc, .slice (some ⟨b, off + (i + 1) * z, none⟩) lb cb]).run P w = .ok (.value (.bool false)) w := fun lb cb => by
  obtain ⟨fn, o1, o2, o3, o4, o5⟩ := L.ov
  rw [run_callFunc_extern o1 o2 o3 o4 o5, Lib.run_overlaps_apart w (ρ.t 24) (ρ.t 4) (ρ.t 9) L.t24 z L.z9 ⟨vb, voff, none⟩ ⟨b, off + (i + 1) * z, none⟩ 1 vc lb cb hvb tA tB kA kB hsa hsb hkB hfa hfe]
  rfl
 have mixed := L.mixed
 have hw1 : IntKind.i64.wrap ((i : Int) + 1) = (i : Int) + 1 := by rw [IntKind.wrap_i64]; omega
 have hb1 : (0 : Int) ≤ (i : Int) + 1 := by omega
 have hin : i ≤ n := by omega
 have htn : ((i : Int) + 1).toNat = i + 1 := by omega
 have hb2 : ¬ (c = i + 1) := by omega
 have hb3 : (i : Int) ≤ (n : Int) + 1 := by omega
 have hb4 : ¬ (c = i) := by omega
 obtain ⟨_, _, FG⟩ := L.bears
 go_enter FG, Body2.n22_ntmps ρ
 go_wp2_with (simp only [hov])
 go_region_law_o (refine step_copy_runI rfl _ _ (ρ.t 24) (ρ.t 24) rfl _ _ (by simp [Act.eval, Act.put]) (by simp [Act.eval, Act.put]) (hcp1 _) ?_)
 go_wp2_with (at_builtin; refine wpList_copy_runI _ rfl _ _ (ρ.t 24) (ρ.t 24) rfl _ _ rfl rfl (hcp2 _) ?_)
 go_ret
 exact ⟨rfl, rfl⟩
set_option maxHeartbeats 4000000 in
set_option maxRecDepth 100000 in
theorem ins_end {f : FuncId} {z : Nat} (L : InsL P f ρ z) (base : Option Addr) (n c vc : Nat) (av : Addr) (u : Value) (w W1 : World) (_hnc : n ≤ c)
  (hap : ∀ ty, (Builtin.append_ #[(ρ.t 24), (ρ.t 24)] ty #[.slice base n c, .slice (some av) 1 vc]).run P w = .ok u W1) :
  Calls P f #[.slice base n c, .int .i64 n, .slice (some av) 1 vc] w fun e w' => e = .returned u ∧ w' = W1 := by
 have t3 := L.t3; have a3 := L.a3; have z3 := L.z3; have v3 := L.v3; have t4 := L.t4; have a4 := L.a4; have z4 := L.z4; have v4 := L.v4; have z9 := L.z9; have t24 := L.t24; have a24 := L.a24; have z24 := L.z24; have v24 := L.v24
 have u3 := run_underlying L.t3; have u4 := run_underlying L.t4; have u24 := run_underlying L.t24
 have mixed := L.mixed
 obtain ⟨_, _, FG⟩ := L.bears
 go_enter FG, Body2.n22_ntmps ρ
 obtain ⟨ab, ao, asp⟩ := av
 cases base with
 | none =>
  go_wp2_with (at_builtin; refine Lib.wpList_append_run _ rfl _ _ _ _ rfl _ _ rfl rfl _ _ (hap _) ?_)
  go_ret
  exact ⟨rfl, rfl⟩
 | some a =>
  obtain ⟨bb, bo, bs⟩ := a
  go_wp2_with (at_builtin; refine Lib.wpList_append_run _ rfl _ _ _ _ rfl _ _ rfl rfl _ _ (hap _) ?_)
  all_goals (go_ret; exact ⟨rfl, rfl⟩)
set_option maxHeartbeats 4000000 in
set_option maxRecDepth 100000 in
theorem ins_grow {f : FuncId} {z : Nat} (L : InsL P f ρ z) (b off n c i vc M G : Nat) (av : Addr) (w W1 W2 W3 : World) (hi : i < n) (hnc : n ≤ c) (hroom : c < n + 1) (hc63 : n + 1 ≤ 9223372036854775807) (hGn : n + 1 ≤ G)
  (hrz : ∀ ty, (Builtin.append_ #[(ρ.t 24), (ρ.t 3)] ty #[.slice (some ⟨b, off, none⟩) i c, .int .i64 ((n : Int) + 1 - (i : Int))]).run P w = .ok (.slice (some ⟨M, 0, none⟩) (n + 1) G) W1)
  (hcpA : ∀ ty, (Builtin.copy_ #[(ρ.t 24), (ρ.t 24)] ty #[.slice (some ⟨M, i * z, none⟩) (n + 1 - i) (G - i), .slice (some av) 1 vc]).run P W1 = .ok (goInt (1 : Nat)) W2)
  (hcpB : ∀ ty, (Builtin.copy_ #[(ρ.t 24), (ρ.t 24)] ty #[.slice (some ⟨M, (i + 1) * z, none⟩) (n - i) (G - (i + 1)), .slice (some ⟨b, off + i * z, none⟩) (n - i) (c - i)]).run P W2.drew = .ok (goInt (n - i : Nat)) W3) :
  Calls P f #[.slice (some ⟨b, off, none⟩) n c, .int .i64 i, .slice (some av) 1 vc] w fun e w' => e = .returned (.slice (some ⟨M, 0, none⟩) (n + 1) G) ∧ w' = W3 := by
 have t3 := L.t3; have a3 := L.a3; have z3 := L.z3; have v3 := L.v3; have t4 := L.t4; have a4 := L.a4; have z4 := L.z4; have v4 := L.v4; have z9 := L.z9; have t24 := L.t24; have a24 := L.a24; have z24 := L.z24; have v24 := L.v24
 have u3 := run_underlying L.t3; have u4 := run_underlying L.t4; have u24 := run_underlying L.t24
 have mixed := L.mixed
 have hz2 : ¬ ((i : Int) = (n : Int)) := by omega
 have hz3 : (c : Int) < (n : Int) + 1 := by omega
 have hGi : ¬ (G = i) := by omega
 have hGim : ¬ (G = i + 1) := by omega
 have hci : ¬ (c = i) := by omega
 have hw1 : IntKind.i64.wrap ((i : Int) + 1) = (i : Int) + 1 := by rw [IntKind.wrap_i64]; omega
 have hw2 : IntKind.i64.wrap ((n : Int) + 1) = (n : Int) + 1 := by rw [IntKind.wrap_i64]; omega
 have hw3 : IntKind.i64.wrap ((n : Int) + 1 - (i : Int)) = (n : Int) + 1 - (i : Int) := by rw [IntKind.wrap_i64]; omega
 have hb1 : (0 : Int) ≤ (i : Int) + 1 := by omega
 have hin : i ≤ n := by omega
 have htn : ((i : Int) + 1).toNat = i + 1 := by omega
 have hb3 : (i : Int) ≤ (n : Int) := by omega
 obtain ⟨_, _, FG⟩ := L.bears
 obtain ⟨ab, ao, asp⟩ := av
 go_enter FG, Body2.n22_ntmps ρ
 go_wp2_with (first
  | (at_builtin; refine Lib.wpList_append_run _ rfl _ _ _ _ rfl _ _ rfl rfl _ _ (hrz _) ?_)
  | (at_builtin; refine wpList_copy_runI _ rfl _ _ (ρ.t 24) (ρ.t 24) rfl _ _ rfl rfl (hcpA _) ?_))
 go_region_law_o (refine step_copy_runI rfl _ _ (ρ.t 24) (ρ.t 24) rfl _ _ (by simp [Act.eval, Act.put]) (by simp [Act.eval, Act.put]) (hcpB _) ?_)
 go_wp2
 go_ret
 exact ⟨rfl, rfl⟩
end Go.Proofs
end
