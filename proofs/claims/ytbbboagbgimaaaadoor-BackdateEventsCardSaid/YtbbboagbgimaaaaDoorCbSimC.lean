/- slices.Clone: a contract of its own. -/
import Derived.Test.YtbbboagbgimaaaaDoorCbSimZ
import Derived.Lib.LazyBuf
open Go.RowKit
namespace Go.Sim
section
variable {P : Program} {N : Names} {C : Cx} {w : World} {S : Stab} {β : Pl} {B : Nat} {H : Heap} {a : Act} {E : Env}
/-- The code of slices.Clone, for elements of shape k that take b bytes each. -/
def CloneOK (P : Program) (N : Names) (f : FuncId) (k : K) (b : Nat) : Prop :=
  ∃ (fn : Func) (T e T' : TypeId) (z : DV) (k0 : K) (i0 i1 i2 i3 : Nat) (o0 o1 o2 o3 : Oper) (O4 : Array Oper), P.funcs[f]? = some fn ∧
    fn.body = some (.seq (.region i0 #[o0] false) (.seq (.seq (.region i1 #[o1, o2] false) (.cond (.tmp 4) (.seq (.region i2 #[o3] false) .ret) .skip)) (.seq (.region i3 O4 false) .ret))) ∧
    P.underlying T = some (.slice e) ∧ fn.results.toList = [.tmp 2] ∧ fn.ntmps = 8 ∧
    digO P N #[o0] o0 = ⟨some 2, .mov (.c (.l k0 [] true)), none⟩ ∧ o1.dst = some 3 ∧ o1.op = .move (.tmp 0) ∧ o1.guard = none ∧ o2.dst = some 4 ∧ o2.op = .binOp .eql T (.tmp 3) (.const (.slice none 0 0)) T' ∧ o2.guard = none ∧
    digO P N #[o3] o3 = ⟨some 2, .mov (.c (.l k [] true)), none⟩ ∧
    O4.toList.map (digO P N O4) = [⟨some 5, .bsl k z 0 [], none⟩, ⟨some 6, .mov (.t 0), none⟩, ⟨some 7, .app k b (.t 5) (.t 6), none⟩, ⟨some 2, .mov (.t 7), none⟩]
def noE (G : Nat → Option (DV × K)) : Env := { G := G, val := fun _ _ => none, ref := fun _ _ _ => none }
theorem noE_ok (G : Nat → Option (DV × K)) : OrOK P C N (noE G) := ⟨(fun f ds r own h => by cases h), (fun f args H r H' h => by cases h), (fun f args H r h => by cases h)⟩
theorem K.eq_refl (k : K) : K.eq k k = true := by cases k <;> simp [K.eq]
theorem clone_calls {G : Nat → Option (DV × K)} (hN : NOK P N C G) {f : Nat} {k : K} {b : Nat} (hc : CloneOK P N (C.μ f) k b) {ds : List DV} {r : PV} {own : Bool} (h : cloneX k b ds = some (r, own)) : CallV P C N G f ds r own := by
  unfold cloneX at h
  split at h
  case h_2 => cases h
  rename_i k' es t
  split at h
  case isFalse => cases h
  rename_i hck
  simp only [Option.some.injEq, Prod.mk.injEq] at h
  obtain ⟨rfl, rfl⟩ := h
  simp only [Bool.and_eq_true, Bool.or_eq_true, decide_eq_true_eq, List.isEmpty_iff] at hck
  obtain ⟨hk, hb⟩ := hck
  intro w S us hS hG hl hr
  obtain ⟨fn, T, e, T', z, k0, i0, i1, i2, i3, o0, o1, o2, o3, O4, f1, f2, f3, f4, f5, f6, f7, f8, f9, f10, f11, f12, f13, f14⟩ := hc
  have hus : us.length = 1 := by simpa using hl.symm
  have h0 : HOK C w.heap.size w S (fun _ => .pend) [] := ⟨(fun o blk base k h => by cases h), (fun o h => by cases h), (fun o h => by cases h), (fun o o' blk base k base' k' h => by cases h), fun _ _ => rfl⟩
  refine calls_of_wp f1 f2 ?_
  have hOO : OrOK P C N (noE G) := noE_ok G
  have hNN : NOK P N C (noE G).G := hN
  have hI : Inv P N C (noE G) w.heap.size 0 8 ⟨[(0, .d (.l k' es t))], []⟩ { tmps := us.toArray ++ Array.replicate (fn.ntmps - us.toArray.size) undef, defers := [] } w S (fun _ => .pend) := by
    refine ⟨hS, hG, Nat.le_refl _, h0, ?_, by simp [hus, f5], rfl, Nat.le_refl _⟩
    intro t'
    simp only [Fr.get]
    split
    · rename_i ht; subst ht
      have := hr 0 (by simp) (by omega)
      simp only [List.getElem_cons_zero] at this
      have e1 : (us.toArray ++ Array.replicate (fn.ntmps - us.toArray.size) undef).getD 0 undef = us[0] := by
        rw [Array.getD_eq_getD_getElem?, Array.getElem?_append_left (by simp [hus])]
        simp [hus]
      rw [e1]; exact .d _ _ this
    · exact .u _
  -- the end
  have fin : ∀ (s : St) (v : PV) (a' : Act) (w' : World) (S' : Stab) (β' : Pl), Inv P N C (noE G) w.heap.size 0 8 s a' w' S' β' → Ext w.heap.size w S w' S' → s.fr.get 2 = v → purT s.H v = some (.d (.l k es false), true) →
      bodyPost P fn (fun e w' => ∃ v S', e = .returned v ∧ Ext w.heap.size w S w' S' ∧ Swf w' S' ∧ (true = false → RelV C w' S' (fun _ => .pend) (.d (.l k es false)) v) ∧ (true = true → ∃ k2 es2, PV.d (.l k es false) = .d (.l k2 es2 false) ∧ OwnedBy w' S' k2 es2 v w.heap.size)) .ret a' w' := by
    intro s v a' w' S' β' hI' g1 hv hp
    have hd : digRs P fn.results.toList = some [.t 2] := by rw [f4]; rfl
    obtain ⟨us', e1, e2, e3⟩ := results_sound hI' hd (vs := [v]) (by simp [Sim.results, hv])
    have hlu : us'.length = 1 := by simpa using e2.symm
    have e4 : (fn.results.mapM (resOf a'.tmps)).run P w' = .ok us'.toArray w' := by
      rw [Array.mapM_eq_mapM_toList, Sem.run_map, e1]
      rfl
    obtain ⟨S2, q1, q2, q3, q4⟩ := purT_sound hp hI'.swf hI'.hok g1 (e3 0 (by simp) (by omega))
    refine ⟨hI'.defers, us'[0], ?_, us'[0], S2, rfl, q1, q2, q3, q4⟩
    unfold Go.results
    rw [Sem.run_bind]
    show Result.andThen ((fn.results.mapM (resOf a'.tmps)).run P w') _ = _
    rw [e4]
    simp [hlu]
  revert fin
  generalize bodyPost P fn _ = QQ
  intro fin
  -- the first region
  refine wp_seq ?_
  refine code_sound (n := 0) hOO hNN (.reg [⟨some 2, .mov (.c (.l k0 [] true)), none⟩] []) (.region i0 #[o0] false) (by simp [digC, bare, f6]) rfl _ ⟨[(0, .d (.l k' es t)), (2, .d (.l k0 [] true))], []⟩ .norm _ w S _ _ (by simp [evalC, evalReg, evalOps, nadds, IOp.adds, evalOp, rd, Fr.set, Fr.drop]) hI ?_
  intro a1 w1 S1 β1 hI1 g1 _
  -- is it nil?
  refine wp_seq (wp_seq (wp_region ?_))
  have hw1 : ∀ a : Act, Region.wanted o1 (yielded #[o1, o2] a.tmps) = true := fun a => by simp [Region.wanted, f9]
  have hw2 : ∀ a : Act, Region.wanted o2 (yielded #[o1, o2] a.tmps) = true := fun a => by simp [Region.wanted, f12]
  show wpOps P #[o1, o2] _ [0, 1] a1 w1
  simp only [wpOps, List.getElem?_toArray, List.getElem?_cons_zero, List.getElem?_cons_succ, hw1, hw2, if_true]
  refine .inl (wp_value (w' := w1) (u := a1.eval (.tmp 0)) (by simp [execOp, f8]) (.inl ?_))
  rw [f7]
  have hv0 := hI1.fok 0
  simp only [Fr.get, if_true] at hv0
  have hF2 : FOK C w1 S1 β1 _ (a1.put (some 3) (a1.eval (.tmp 0))) := hI1.fok.put (d := 3) (by rw [hI1.size]; omega) hv0
  have hv3 := hF2 3
  rw [get_set, if_pos rfl] at hv3
  obtain ⟨av, cap, hav, hcap, hnil⟩ : ∃ av cap, (a1.put (some 3) (a1.eval (.tmp 0))).eval (.tmp 3) = .slice av es.length cap ∧ (t = true → cap = es.length) ∧ (0 < es.length → ∃ p, av = some p) := by
    change RelV C w1 S1 β1 _ ((a1.put (some 3) (a1.eval (.tmp 0))).eval (.tmp 3)) at hv3
    generalize (a1.put (some 3) (a1.eval (.tmp 0))).eval (.tmp 3) = v3 at hv3
    cases hv3 with
    | d _ _ hv3 =>
    cases hv3 with
    | l _ _ _ av cap blk off c c1 c2 c3 c4 c5 => exact ⟨av, cap, rfl, c2, fun h => ⟨_, c3 h⟩⟩
  have hexec : (execOp (a1.put (some 3) (a1.eval (.tmp 0))).eval o2).run P w1 = .ok (.value (.bool av.isNone)) w1 := by
    simp only [execOp, f11, hav]
    refine run_v ?_
    have e1 : (a1.put (some 3) (a1.eval (.tmp 0))).eval (.const (.slice none 0 0)) = .slice none 0 0 := rfl
    rw [e1]
    have e2 : (eqGuard .eql T (.tmp 3) (.const (.slice none 0 0)) (.slice av es.length cap) (.slice none 0 0)).run P w1 = .ok () w1 := by simp [eqGuard]
    simp only [Sem.run_bind, e2, Result.andThen_ok, run_eql_slice_nil w1 T e av es.length cap f3]
  refine wp_value hexec ?_
  rw [f10]
  have hF3 := hF2.put (d := 4) (v := .d (.b av.isNone)) (u := .bool av.isNone) (by simp [Act.put, hI1.size]) (.d _ _ (.b _))
  generalize ha2 : ((a1.put (some 3) (a1.eval (.tmp 0))).put (some 4) (.bool av.isNone)) = a2 at *
  have hI2 : Inv P N C (noE G) w.heap.size 0 8 ⟨[(0, .d (.l k' es t)), (2, .d (.l k0 [] true)), (3, .d (.l k' es t)), (4, .d (.b av.isNone))], []⟩ a2 w1 S1 β1 := by
    refine ⟨hI1.swf, hI1.gok, hI1.hB, hI1.hok, hF3, ?_, ?_, Nat.le_refl _⟩
    · rw [← ha2]; simp [Act.put, hI1.size]
    · rw [← ha2]; exact hI1.defers
  have hcond : a2.eval (.tmp 4) = .bool av.isNone := by
    have := hI2.fok 4
    simp only [Fr.get] at this
    exact bool_rel this
  show (Code.cond _ _ _).wp P _ a2 w1
  cases hav2 : av with
  | none =>
    rw [hav2] at hcond
    have hes : es = [] := by
      cases es with
      | nil => rfl
      | cons x xs => obtain ⟨p, hp⟩ := hnil (by simp); rw [hav2] at hp; cases hp
    subst hes
    refine wp_cond_true hcond ?_
    refine code_sound (n := 0) hOO hNN (.seq (.reg [⟨some 2, .mov (.c (.l k [] true)), none⟩] []) .ret) (.seq (.region i2 #[o3] false) .ret) (by simp [digC, bare, f13]) rfl _ ⟨[(0, .d (.l k' [] t)), (2, .d (.l k [] true)), (3, .d (.l k' [] t)), (4, .d (.b av.isNone))], []⟩ .ret _ w1 S1 _ _ (by simp [evalC, evalReg, evalOps, nadds, IOp.adds, evalOp, rd, Fr.set, Fr.drop]) hI2 ?_
    intro a3 w3 S3 β3 hI3 g3 _
    exact fin _ _ a3 w3 S3 β3 hI3 (g1.trans g3) rfl (by simp [purT, Fr.get])
  | some p =>
    rw [hav2] at hcond
    refine wp_cond_false hcond (wp_skip ?_)
    have hke : (K.eq k k' || es.isEmpty) = true := by
      rcases hk with hk | hk
      · rw [hk]; simp
      · simp [hk]
    have hb' : (0 + es.length) * b ≤ 2 ^ 47 := by rw [Nat.zero_add]; exact hb
    show (Code.seq _ _).wp P _ a2 w1
    cases hes : es with
    | nil =>
      subst hes
      refine code_sound (n := 0) hOO hNN (.seq (.reg [⟨some 5, .bsl k z 0 [], none⟩, ⟨some 6, .mov (.t 0), none⟩, ⟨some 7, .app k b (.t 5) (.t 6), none⟩, ⟨some 2, .mov (.t 7), none⟩] []) .ret) (.seq (.region i3 O4 false) .ret) (by simp [digC, bare, f14]) rfl _ ⟨[(0, .d (.l k' [] t)), (2, .r 0 k 0 0 true), (3, .d (.l k' [] t)), (4, .d (.b av.isNone)), (5, .r 0 k 0 0 true), (6, .d (.l k' [] t)), (7, .r 0 k 0 0 true)], [some (.sl k 0 []), none]⟩ .ret _ w1 S1 _ _
        (by simp [evalC, evalReg, evalOps, nadds, IOp.adds, evalOp, rd, Fr.set, Fr.get, Fr.drop, bslA, frz, Heap.put, Heap.obj, appA, elemsA, K.eq_refl]) hI2 ?_
      intro a3 w3 S3 β3 hI3 g3 _
      exact fin _ _ a3 w3 S3 β3 hI3 (g1.trans g3) rfl (by simp [purT, Heap.obj, Fr.get])
    | cons x xs =>
      rw [hes] at hke hb'
      have hkk : K.eq k k' = true := by simpa using hke
      subst hes
      refine code_sound (n := 0) hOO hNN (.seq (.reg [⟨some 5, .bsl k z 0 [], none⟩, ⟨some 6, .mov (.t 0), none⟩, ⟨some 7, .app k b (.t 5) (.t 6), none⟩, ⟨some 2, .mov (.t 7), none⟩] []) .ret) (.seq (.region i3 O4 false) .ret) (by simp [digC, bare, f14]) rfl _ ⟨[(0, .d (.l k' (x :: xs) t)), (2, .r 1 k 0 (0 + (x :: xs).length) false), (3, .d (.l k' (x :: xs) t)), (4, .d (.b av.isNone)), (5, .r 0 k 0 0 true), (6, .d (.l k' (x :: xs) t)), (7, .r 1 k 0 (0 + (x :: xs).length) false)], [some (.sl k 0 []), some (.sl k 0 (x :: xs))]⟩ .ret _ w1 S1 _ _
        (by
          have hb2 : (xs.length + 1) * b ≤ 140737488355328 := by simpa using hb'
          simp [evalC, evalReg, evalOps, nadds, IOp.adds, evalOp, rd, Fr.set, Fr.get, Fr.drop, bslA, frz, Heap.put, Heap.obj, appA, elemsA, K.eq_refl, hkk, hb2]) hI2 ?_
      intro a3 w3 S3 β3 hI3 g3 _
      exact fin _ _ a3 w3 S3 β3 hI3 (g1.trans g3) rfl (by simp [purT, Heap.obj, Fr.get])
end
end Go.Sim
