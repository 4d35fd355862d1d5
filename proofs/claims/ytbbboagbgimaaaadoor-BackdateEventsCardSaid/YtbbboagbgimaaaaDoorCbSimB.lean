/- The abstract machine without a bound on rounds and calls: the limit, and its equations. -/
import Derived.Test.YtbbboagbgimaaaaDoorCbSimA
namespace Go.Sim
/-- The value that a rising sequence comes to. -/
noncomputable def limO {α : Type} (g : Nat → Option α) : Option α :=
  open Classical in if h : ∃ n, (g n).isSome = true then g (Classical.choose h) else none
theorem rise {α : Type} {g : Nat → Option α} (hm : ∀ n r, g n = some r → g (n + 1) = some r) (k : Nat) : ∀ n r, g n = some r → g (n + k) = some r := by
  induction k with
  | zero => exact fun n r h => h
  | succ k ih => exact fun n r h => hm _ _ (ih n r h)
theorem rise_le {α : Type} {g : Nat → Option α} (hm : ∀ n r, g n = some r → g (n + 1) = some r) {n m : Nat} (h : n ≤ m) {r : α} (hr : g n = some r) : g m = some r := by
  obtain ⟨k, rfl⟩ := Nat.exists_eq_add_of_le h
  exact rise hm k n r hr
theorem limO_some {α : Type} {g : Nat → Option α} (hm : ∀ n r, g n = some r → g (n + 1) = some r) (r : α) : limO g = some r ↔ ∃ n, g n = some r := by
  unfold limO
  constructor
  · intro h
    split at h
    · exact ⟨_, h⟩
    · cases h
  · rintro ⟨n, hn⟩
    have h : ∃ n, (g n).isSome = true := ⟨n, by simp [hn]⟩
    rw [dif_pos h]
    obtain ⟨x, hx⟩ := Option.isSome_iff_exists.1 (Classical.choose_spec h)
    have a := rise_le hm (Nat.le_max_left n (Classical.choose h)) hn
    have b := rise_le hm (Nat.le_max_right n (Classical.choose h)) hx
    rw [a] at b
    rw [hx]; exact b.symm

theorem lpN_up : ∀ (n : Nat) (f : St → Res) (s : St) (r : Ex × St), lpN n f s = some r → lpN (n + 1) f s = some r := by
  intro n
  induction n with
  | zero => intro f s r h; cases h
  | succ n ih =>
    intro f s r h
    rw [lpN] at h
    split at h
    · rename_i s' hs; rw [lpN]; simp only [hs]; exact ih f s' r h
    · rename_i hs; rw [lpN]; split
      · rename_i s' hs'; exact absurd hs' (hs s')
      · exact h
noncomputable def lpI (f : St → Res) (s : St) : Res := limO fun n => lpN n f s
theorem lpI_some (f : St → Res) (s : St) (r : Ex × St) : lpI f s = some r ↔ ∃ n, lpN n f s = some r := limO_some (fun n r h => lpN_up n f s r h) r
theorem lpI_eq (f : St → Res) (s : St) : lpI f s = match f s with | some (.norm, s') => lpI f s' | r => r := by
  apply Option.ext
  intro r
  rw [lpI_some]
  constructor
  · rintro ⟨n, h⟩
    cases n with
    | zero => cases h
    | succ n =>
      rw [lpN] at h
      split at h
      · rename_i s' hs; simp only [hs]; rw [lpI_some]; exact ⟨n, h⟩
      · rename_i hs; split
        · rename_i s' hs'; exact absurd hs' (hs s')
        · exact h
  · intro h
    split at h
    · rename_i s' hs
      obtain ⟨n, hn⟩ := (lpI_some f s' r).1 h
      exact ⟨n + 1, by rw [lpN]; simp only [hs]; exact hn⟩
    · rename_i hs
      refine ⟨1, ?_⟩
      rw [lpN]
      split
      · rename_i s' hs'; exact absurd hs' (hs s')
      · exact h
/-- One round that goes on; a round that ends. -/
theorem lpI_step {f : St → Res} {s s' : St} (h : f s = some (.norm, s')) : lpI f s = lpI f s' := by rw [lpI_eq, h]
theorem lpI_end {f : St → Res} {s s' : St} {e : Ex} (h : f s = some (e, s')) (he : e ≠ .norm) : lpI f s = some (e, s') := by
  rw [lpI_eq, h]; cases e <;> first | rfl | exact absurd rfl he

/-! Greater oracles, greater results. -/
structure EL (E E' : Env) : Prop where
  G : E.G = E'.G
  ref : ∀ f a H r, E.ref f a H = some r → E'.ref f a H = some r
  val : ∀ f a r, E.val f a = some r → E'.val f a = some r
theorem EL.rd {E E' : Env} (h : EL E E') (fr : Fr) : rd E fr = rd E' fr := by
  funext x; cases x <;> simp [Sim.rd, h.G]
theorem EL.op {E E' : Env} (h : EL E E') (ρ : Rand → PV) (H : Heap) (id : Nat) (op : IOp) (r : PV × Heap) (hr : evalOp E ρ H id op = some r) : evalOp E' ρ H id op = some r := by
  cases op with
  | call m f args =>
    match m with
    | 0 =>
      simp only [evalOp] at hr ⊢
      split at hr
      · split at hr
        · rename_i hv; rw [h.val _ _ _ hv]; exact hr
        · cases hr
      · cases hr
    | 1 =>
      simp only [evalOp] at hr ⊢
      split at hr
      · split at hr
        · rename_i hv; rw [h.val _ _ _ hv]; exact hr
        · cases hr
      · cases hr
    | n + 2 => simp only [evalOp] at hr ⊢; exact h.ref _ _ _ _ hr
  | callv x args =>
    simp only [evalOp] at hr ⊢
    split at hr
    · exact h.ref _ _ _ _ hr
    · cases hr
  | _ => exact hr
theorem EL.ops {E E' : Env} (h : EL E E') : ∀ (ops : List IOper) (id : Nat) (s r : St), evalOps E ops id s = some r → evalOps E' ops id s = some r
  | [], _, _, _, hr => hr
  | o :: l, id, s, r, hr => by
    have ih := h.ops l
    have hgo : ∀ x, (match evalOp E (Sim.rd E s.fr) s.H id o.op with
        | some (v, H) => evalOps E l (if o.op.adds then id + 1 else id) ⟨match o.dst with | some t => s.fr.set t v | none => s.fr, H⟩
        | none => none) = some x → (match evalOp E' (Sim.rd E' s.fr) s.H id o.op with
        | some (v, H) => evalOps E' l (if o.op.adds then id + 1 else id) ⟨match o.dst with | some t => s.fr.set t v | none => s.fr, H⟩
        | none => none) = some x := by
      intro x hx
      split at hx
      · rename_i v H he
        rw [← h.rd, h.op _ _ _ _ _ he]
        exact ih _ _ _ hx
      · cases hx
    simp only [evalOps] at hr ⊢
    split at hr
    · exact hgo _ hr
    · split at hr
      · split at hr
        · rename_i hw; simp only [hw, if_true]; exact hgo _ hr
        · rename_i hw; simp only [hw, if_false, Bool.false_eq_true]; exact ih _ _ _ hr
      · exact ih _ _ _ hr
      · cases hr
theorem EL.reg {E E' : Env} (h : EL E E') (ops : List IOper) (kill : List Nat) (s r : St) (hr : evalReg E ops kill s = some r) : evalReg E' ops kill s = some r := by
  unfold evalReg at hr ⊢
  split at hr
  · rename_i he; rw [h.ops _ _ _ _ he]; exact hr
  · cases hr
theorem EL.opD {E E' : Env} (h : EL E E') (ρ : Rand → PV) (H : Heap) (id : Nat) (op : IOp) (r : PV × Heap) (hr : evalOpD E ρ H id op = some r) : evalOpD E' ρ H id op = some r := by
  cases op with
  | call m f args =>
    match m with
    | 0 =>
      simp only [evalOpD] at hr ⊢
      split at hr
      · split at hr
        · rename_i hv; rw [h.val _ _ _ hv]; exact hr
        · cases hr
      · cases hr
    | 1 =>
      simp only [evalOpD] at hr ⊢
      split at hr
      · split at hr
        · rename_i hv; rw [h.val _ _ _ hv]; exact hr
        · cases hr
      · cases hr
    | n + 2 => simp [evalOpD] at hr
  | callv x args => simp [evalOpD] at hr
  | _ => exact hr
theorem EL.stepD {E E' : Env} (h : EL E E') (o : IOper) (id : Nat) (s r : St) (hr : stepD E o id s = some r) : Sim.stepD E' o id s = some r := by
  have hgo : ∀ x, (match evalOpD E (Sim.rd E s.fr) s.H id o.op with
      | some (v, H) => some (⟨match o.dst with | some t => s.fr.set t v | none => s.fr, H⟩ : St)
      | none => none) = some x → (match evalOpD E' (Sim.rd E' s.fr) s.H id o.op with
      | some (v, H) => some (⟨match o.dst with | some t => s.fr.set t v | none => s.fr, H⟩ : St)
      | none => none) = some x := by
    intro x hx
    split at hx
    · rename_i v H he
      rw [← h.rd, h.opD _ _ _ _ _ he]; exact hx
    · cases hx
  simp only [Sim.stepD] at hr ⊢
  split at hr
  · exact hgo _ hr
  · split at hr
    · split at hr
      · rename_i hw; simp only [hw, if_true]; exact hgo _ hr
      · rename_i hw; simp only [hw, if_false, Bool.false_eq_true]; exact hr
    · exact hr
    · cases hr
theorem EL.opsD {E E' : Env} (h : EL E E') : ∀ (ops : List IOper) (id : Nat) (s r : St), evalOpsD E ops id s = some r → evalOpsD E' ops id s = some r
  | [], _, _, _, hr => hr
  | o :: l, id, s, r, hr => by
    simp only [evalOpsD] at hr ⊢
    split at hr
    · rename_i s' hs; rw [h.stepD _ _ _ _ hs]; exact h.opsD l _ _ _ hr
    · cases hr
theorem EL.regD {E E' : Env} (h : EL E E') (ops : List IOper) (kill : List Nat) (s r : St) (hr : evalRegD E ops kill s = some r) : evalRegD E' ops kill s = some r := by
  unfold evalRegD at hr ⊢
  split at hr
  · rename_i he; rw [h.opsD _ _ _ _ he]; exact hr
  · cases hr
def LL (lp lp' : (St → Res) → St → Res) : Prop := ∀ f f' s r, (∀ s r, f s = some r → f' s = some r) → lp f s = some r → lp' f' s = some r
theorem EL.code {E E' : Env} (h : EL E E') {lp lp' : (St → Res) → St → Res} (hl : LL lp lp') (base : Nat) : ∀ (c : PC) (s : St) (r : Ex × St), evalC E lp base c s = some r → evalC E' lp' base c s = some r := by
  intro c
  induction c with
  | skip => exact fun s r hr => hr
  | reg ops kill =>
    intro s r hr
    simp only [evalC] at hr ⊢
    split at hr
    · rename_i he; rw [h.reg _ _ _ _ he]; exact hr
    · cases hr
  | regD ops kill =>
    intro s r hr
    simp only [evalC] at hr ⊢
    split at hr
    · rename_i he; rw [h.regD _ _ _ _ he]; exact hr
    · cases hr
  | seq a b iha ihb =>
    intro s r hr
    simp only [evalC] at hr ⊢
    split at hr
    · rename_i s' he; rw [iha _ _ he]; exact ihb _ _ hr
    · rename_i hn
      cases ha : evalC E lp base a s with
      | none => rw [ha] at hr; cases hr
      | some x =>
        rw [iha _ _ ha, ← ha]
        obtain ⟨e, s'⟩ := x
        cases e with
        | norm => exact absurd ha (hn s')
        | exit id => rw [ha]; rw [ha] at hr; exact hr
        | ret => rw [ha]; rw [ha] at hr; exact hr
  | cond c x y ihx ihy =>
    intro s r hr
    simp only [evalC] at hr ⊢
    rw [← h.rd]
    split at hr
    · rename_i hc; exact ihx _ _ hr
    · rename_i hc; exact ihy _ _ hr
    · cases hr
  | block id x ih =>
    intro s r hr
    simp only [evalC] at hr ⊢
    cases hx : evalC E lp base x s with
    | none => rw [hx] at hr; cases hr
    | some v => rw [hx] at hr; rw [ih _ _ hx]; exact hr
  | loop live x ih =>
    intro s r hr
    simp only [evalC] at hr ⊢
    exact hl _ _ _ _ (fun s r hs => ih _ _ hs) hr
  | exit id => exact fun s r hr => hr
  | ret => exact fun s r hr => hr
  | bad => exact fun s r hr => hr
theorem EL.fn {E E' : Env} (h : EL E E') {lp lp' : (St → Res) → St → Res} (hl : LL lp lp') (F : PF) (args : List PV) (H : Heap) (r : PV × Heap) (hr : evalF E lp F args H = some r) : evalF E' lp' F args H = some r := by
  unfold evalF at hr ⊢
  split at hr
  · rename_i ha
    rw [if_pos ha]
    cases hx : evalC E lp H.length F.body ⟨Fr.ofArgs 0 args, H⟩ with
    | none => rw [hx] at hr; cases hr
    | some v => rw [hx] at hr; rw [h.code hl _ _ _ _ hx]; exact hr
  · cases hr
theorem lpN_LL (n : Nat) : LL (lpN n) (lpN (n + 1)) := by
  induction n with
  | zero => intro f f' s r _ h; cases h
  | succ n ih =>
    intro f f' s r hf h
    rw [lpN] at h ⊢
    split at h
    · rename_i s' hs; rw [hf _ _ hs]; exact ih _ _ _ _ hf h
    · rename_i hn
      cases hs : f s with
      | none => rw [hs] at h; cases h
      | some v =>
        rw [hf _ _ hs]
        rw [hs] at h
        obtain ⟨e, s'⟩ := v
        cases e with
        | norm => exact absurd hs (hn s')
        | exit id => exact h
        | ret => exact h
def envN (T : Tab) (n : Nat) : Env := ⟨T.G, refN T n, valN T n⟩
theorem refN_succ (T : Tab) (n f : Nat) (args : List PV) (H : Heap) : refN T (n + 1) f args H = match T.F f with
    | some F => match evalF (envN T n) (lpN n) F args H with
      | some (v, H') => some (gcV H.length v H')
      | none => none
    | none => none := by rw [refN]; rfl
theorem valN_succ (T : Tab) (n f : Nat) (args : List DV) : valN T (n + 1) f args = match T.F f with
    | some F => match evalF (envN T n) (lpN n) F (args.map .d) [] with
      | some (v, H') => purT H' v
      | none => none
    | none => T.X f args := by rw [valN]; rfl
theorem envN_up (T : Tab) : ∀ n, EL (envN T n) (envN T (n + 1)) := by
  intro n
  induction n with
  | zero => exact ⟨rfl, fun _ _ _ _ h => by simp [envN, refN] at h, fun _ _ _ h => by simp [envN, valN] at h⟩
  | succ n ih =>
    refine ⟨rfl, fun f a H r h => ?_, fun f a r h => ?_⟩
    · change refN T (n + 1) f a H = some r at h
      change refN T (n + 1 + 1) f a H = some r
      rw [refN_succ] at h ⊢
      split at h
      · rename_i F hF
        split at h
        · rename_i v H' he
          rw [EL.fn ih (lpN_LL n) _ _ _ _ he]; exact h
        · cases h
      · cases h
    · change valN T (n + 1) f a = some r at h
      change valN T (n + 1 + 1) f a = some r
      rw [valN_succ] at h ⊢
      split at h
      · rename_i F hF
        split at h
        · rename_i v H' he
          rw [EL.fn ih (lpN_LL n) _ _ _ _ he]; exact h
        · cases h
      · exact h
noncomputable def Tab.ref (T : Tab) (f : Nat) (args : List PV) (H : Heap) : Option (PV × Heap) := limO fun n => refN T n f args H
noncomputable def Tab.val (T : Tab) (f : Nat) (args : List DV) : Option (PV × Bool) := limO fun n => valN T n f args
theorem ref_some (T : Tab) (f : Nat) (args : List PV) (H : Heap) (r : PV × Heap) : T.ref f args H = some r ↔ ∃ n, refN T n f args H = some r :=
  limO_some (fun n r h => (envN_up T n).ref f args H r h) r
theorem val_some (T : Tab) (f : Nat) (args : List DV) (r : PV × Bool) : T.val f args = some r ↔ ∃ n, valN T n f args = some r :=
  limO_some (fun n r h => (envN_up T n).val f args r h) r
noncomputable def Tab.env (T : Tab) : Env := ⟨T.G, T.ref, T.val⟩
theorem envN_le (T : Tab) (n : Nat) : EL (envN T n) T.env :=
  ⟨rfl, fun f a H r h => (ref_some T f a H r).2 ⟨n, h⟩, fun f a r h => (val_some T f a r).2 ⟨n, h⟩⟩
theorem EL.trans {A B C : Env} (h : EL A B) (k : EL B C) : EL A C :=
  ⟨h.G.trans k.G, fun f a H r x => k.ref _ _ _ _ (h.ref _ _ _ _ x), fun f a r x => k.val _ _ _ (h.val _ _ _ x)⟩
theorem EL.refl (A : Env) : EL A A := ⟨rfl, fun _ _ _ _ h => h, fun _ _ _ h => h⟩
theorem envN_mono (T : Tab) {n m : Nat} (h : n ≤ m) : EL (envN T n) (envN T m) := by
  obtain ⟨k, rfl⟩ := Nat.exists_eq_add_of_le h
  induction k with
  | zero => exact EL.refl _
  | succ k ih => exact EL.trans (ih (by omega)) (envN_up T (n + k))
theorem lpN_mono {n m : Nat} (h : n ≤ m) : LL (lpN n) (lpN m) := by
  obtain ⟨k, rfl⟩ := Nat.exists_eq_add_of_le h
  induction k with
  | zero =>
    cases n with
    | zero => intro f f' s r _ h; cases h
    | succ n =>
      intro f f' s r hf h
      have := lpN_LL n
      have key : ∀ n, LL (lpN n) (lpN n) := by
        intro n
        induction n with
        | zero => intro f f' s r _ h; cases h
        | succ n ih =>
          intro f f' s r hf h
          rw [lpN] at h ⊢
          split at h
          · rename_i s' hs; rw [hf _ _ hs]; exact ih _ _ _ _ hf h
          · rename_i hn
            cases hs : f s with
            | none => rw [hs] at h; cases h
            | some v =>
              rw [hf _ _ hs]
              rw [hs] at h
              obtain ⟨e, s'⟩ := v
              cases e with
              | norm => exact absurd hs (hn s')
              | exit id => exact h
              | ret => exact h
      exact key _ _ _ _ _ hf h
  | succ k ih =>
    intro f f' s r hf h
    exact lpN_LL (n + k) _ _ _ _ hf (ih (by omega) _ _ _ _ (fun _ _ h => h) h)
theorem lpN_I (n : Nat) : LL (lpN n) lpI := fun _ f' s r hf h => (lpI_some f' s r).2 ⟨n, lpN_mono (Nat.le_refl n) _ _ _ _ hf h⟩

/-! What the limit gives is given already at some bound. -/
section
variable {T : Tab}
theorem op_fin (ρ : Rand → PV) (H : Heap) (id : Nat) (op : IOp) (r : PV × Heap) (hr : evalOp T.env ρ H id op = some r) : ∃ n, evalOp (envN T n) ρ H id op = some r := by
  cases op with
  | call m f args =>
    match m with
    | 0 =>
      simp only [evalOp] at hr
      split at hr
      · split at hr
        · rename_i hp _ _ _ hv
          obtain ⟨n, hn⟩ := (val_some T _ _ _).1 hv
          exact ⟨n, by simp only [evalOp, hp, envN, hn]; exact hr⟩
        · cases hr
      · cases hr
    | 1 =>
      simp only [evalOp] at hr
      split at hr
      · split at hr
        · rename_i hp _ _ _ _ hv
          obtain ⟨n, hn⟩ := (val_some T _ _ _).1 hv
          exact ⟨n, by simp only [evalOp, hp, envN, hn]; exact hr⟩
        · cases hr
      · cases hr
    | m + 2 =>
      simp only [evalOp] at hr
      obtain ⟨n, hn⟩ := (ref_some T _ _ _ _).1 hr
      exact ⟨n, by simp only [evalOp, envN]; exact hn⟩
  | callv x args =>
    simp only [evalOp] at hr
    split at hr
    · rename_i hx
      obtain ⟨n, hn⟩ := (ref_some T _ _ _ _).1 hr
      exact ⟨n, by simp only [evalOp, hx, envN]; exact hn⟩
    · cases hr
  | _ => exact ⟨0, hr⟩
theorem ops_fin : ∀ (ops : List IOper) (id : Nat) (s r : St), evalOps T.env ops id s = some r → ∃ n, evalOps (envN T n) ops id s = some r
  | [], _, _, _, hr => ⟨0, hr⟩
  | o :: l, id, s, r, hr => by
    have hgo : ∀ x, (match evalOp T.env (rd T.env s.fr) s.H id o.op with
        | some (v, H) => evalOps T.env l (if o.op.adds then id + 1 else id) ⟨match o.dst with | some t => s.fr.set t v | none => s.fr, H⟩
        | none => none) = some x → ∃ n, (match evalOp (envN T n) (rd (envN T n) s.fr) s.H id o.op with
        | some (v, H) => evalOps (envN T n) l (if o.op.adds then id + 1 else id) ⟨match o.dst with | some t => s.fr.set t v | none => s.fr, H⟩
        | none => none) = some x := by
      intro x hx
      split at hx
      · rename_i v H he
        obtain ⟨n, hn⟩ := op_fin _ _ _ _ _ he
        obtain ⟨m, hm⟩ := ops_fin l _ _ _ hx
        refine ⟨max n m, ?_⟩
        rw [(envN_le T (max n m)).rd, (envN_mono T (Nat.le_max_left n m)).op _ _ _ _ _ hn]
        exact (envN_mono T (Nat.le_max_right n m)).ops _ _ _ _ hm
      · cases hx
    simp only [evalOps] at hr ⊢
    split at hr
    · exact hgo _ hr
    · split at hr
      · split at hr
        · rename_i hw; simp only [hw, if_true]; exact hgo _ hr
        · rename_i hw; simp only [hw, if_false, Bool.false_eq_true]; exact ops_fin l _ _ _ hr
      · exact ops_fin l _ _ _ hr
      · cases hr
theorem reg_fin (ops : List IOper) (kill : List Nat) (s r : St) (hr : evalReg T.env ops kill s = some r) : ∃ n, evalReg (envN T n) ops kill s = some r := by
  unfold evalReg at hr
  split at hr
  · rename_i he
    obtain ⟨n, hn⟩ := ops_fin _ _ _ _ he
    exact ⟨n, by unfold evalReg; rw [hn]; exact hr⟩
  · cases hr
theorem opD_fin (ρ : Rand → PV) (H : Heap) (id : Nat) (op : IOp) (r : PV × Heap) (hr : evalOpD T.env ρ H id op = some r) : ∃ n, evalOpD (envN T n) ρ H id op = some r := by
  cases op with
  | call m f args =>
    match m with
    | 0 =>
      simp only [evalOpD] at hr
      split at hr
      · split at hr
        · rename_i hp _ _ _ hv
          obtain ⟨n, hn⟩ := (val_some T _ _ _).1 hv
          exact ⟨n, by simp only [evalOpD, hp, envN, hn]; exact hr⟩
        · cases hr
      · cases hr
    | 1 =>
      simp only [evalOpD] at hr
      split at hr
      · split at hr
        · rename_i hp _ _ _ _ hv
          obtain ⟨n, hn⟩ := (val_some T _ _ _).1 hv
          exact ⟨n, by simp only [evalOpD, hp, envN, hn]; exact hr⟩
        · cases hr
      · cases hr
    | m + 2 => simp [evalOpD] at hr
  | callv x args => simp [evalOpD] at hr
  | _ => exact ⟨0, hr⟩
theorem stepD_fin (o : IOper) (id : Nat) (s r : St) (hr : stepD T.env o id s = some r) : ∃ n, stepD (envN T n) o id s = some r := by
  have hgo : ∀ x, (match evalOpD T.env (rd T.env s.fr) s.H id o.op with
      | some (v, H) => some (⟨match o.dst with | some t => s.fr.set t v | none => s.fr, H⟩ : St)
      | none => none) = some x → ∃ n, (match evalOpD (envN T n) (rd (envN T n) s.fr) s.H id o.op with
      | some (v, H) => some (⟨match o.dst with | some t => s.fr.set t v | none => s.fr, H⟩ : St)
      | none => none) = some x := by
    intro x hx
    split at hx
    · rename_i v H he
      obtain ⟨n, hn⟩ := opD_fin _ _ _ _ _ he
      exact ⟨n, by rw [(envN_le T n).rd, hn]; exact hx⟩
    · cases hx
  simp only [stepD] at hr ⊢
  split at hr
  · exact hgo _ hr
  · split at hr
    · split at hr
      · rename_i hw; simp only [hw, if_true]; exact hgo _ hr
      · rename_i hw; simp only [hw, if_false, Bool.false_eq_true]; exact ⟨0, hr⟩
    · exact ⟨0, hr⟩
    · cases hr
theorem opsD_fin : ∀ (ops : List IOper) (id : Nat) (s r : St), evalOpsD T.env ops id s = some r → ∃ n, evalOpsD (envN T n) ops id s = some r
  | [], _, _, _, hr => ⟨0, hr⟩
  | o :: l, id, s, r, hr => by
    simp only [evalOpsD] at hr
    split at hr
    · rename_i s' hs
      obtain ⟨n, hn⟩ := stepD_fin _ _ _ _ hs
      obtain ⟨m, hm⟩ := opsD_fin l _ _ _ hr
      refine ⟨max n m, ?_⟩
      simp only [evalOpsD]
      rw [(envN_mono T (Nat.le_max_left n m)).stepD _ _ _ _ hn]
      exact (envN_mono T (Nat.le_max_right n m)).opsD _ _ _ _ hm
    · cases hr
theorem regD_fin (ops : List IOper) (kill : List Nat) (s r : St) (hr : evalRegD T.env ops kill s = some r) : ∃ n, evalRegD (envN T n) ops kill s = some r := by
  unfold evalRegD at hr
  split at hr
  · rename_i he
    obtain ⟨n, hn⟩ := opsD_fin _ _ _ _ he
    exact ⟨n, by unfold evalRegD; rw [hn]; exact hr⟩
  · cases hr
theorem code_fin (base : Nat) : ∀ (c : PC) (s : St) (r : Ex × St), evalC T.env lpI base c s = some r → ∃ n, evalC (envN T n) (lpN n) base c s = some r := by
  intro c
  induction c with
  | skip => exact fun s r hr => ⟨0, hr⟩
  | reg ops kill =>
    intro s r hr
    simp only [evalC] at hr ⊢
    split at hr
    · rename_i he
      obtain ⟨n, hn⟩ := reg_fin _ _ _ _ he
      exact ⟨n, by rw [hn]; exact hr⟩
    · cases hr
  | regD ops kill =>
    intro s r hr
    simp only [evalC] at hr ⊢
    split at hr
    · rename_i he
      obtain ⟨n, hn⟩ := regD_fin _ _ _ _ he
      exact ⟨n, by rw [hn]; exact hr⟩
    · cases hr
  | seq a b iha ihb =>
    intro s r hr
    simp only [evalC] at hr
    cases ha : evalC T.env lpI base a s with
    | none => rw [ha] at hr; cases hr
    | some x =>
      obtain ⟨n, hn⟩ := iha _ _ ha
      rw [ha] at hr
      obtain ⟨e, s'⟩ := x
      cases e with
      | norm =>
        obtain ⟨m, hm⟩ := ihb _ _ hr
        refine ⟨max n m, ?_⟩
        simp only [evalC]
        rw [(envN_mono T (Nat.le_max_left n m)).code (lpN_mono (Nat.le_max_left n m)) _ _ _ _ hn]
        exact (envN_mono T (Nat.le_max_right n m)).code (lpN_mono (Nat.le_max_right n m)) _ _ _ _ hm
      | exit id => exact ⟨n, by simp only [evalC, hn]; exact hr⟩
      | ret => exact ⟨n, by simp only [evalC, hn]; exact hr⟩
  | cond c x y ihx ihy =>
    intro s r hr
    simp only [evalC] at hr ⊢
    split at hr
    · rename_i hc
      obtain ⟨n, hn⟩ := ihx _ _ hr
      exact ⟨n, by rw [(envN_le T n).rd, hc]; exact hn⟩
    · rename_i hc
      obtain ⟨n, hn⟩ := ihy _ _ hr
      exact ⟨n, by rw [(envN_le T n).rd, hc]; exact hn⟩
    · cases hr
  | block id x ih =>
    intro s r hr
    simp only [evalC] at hr ⊢
    cases hx : evalC T.env lpI base x s with
    | none => rw [hx] at hr; cases hr
    | some v =>
      obtain ⟨n, hn⟩ := ih _ _ hx
      exact ⟨n, by rw [hn]; rw [hx] at hr; exact hr⟩
  | loop live x ih =>
    intro s r hr
    simp only [evalC] at hr ⊢
    obtain ⟨m, hm⟩ := (lpI_some _ _ _).1 hr
    clear hr
    induction m generalizing s with
    | zero => cases hm
    | succ m ihm =>
      rw [lpN] at hm
      cases hx : evalC T.env lpI base x (gc live base s) with
      | none => rw [hx] at hm; cases hm
      | some v =>
        obtain ⟨n, hn⟩ := ih _ _ hx
        rw [hx] at hm
        obtain ⟨e, s'⟩ := v
        cases e with
        | norm =>
          obtain ⟨k, hk⟩ := ihm s' hm
          refine ⟨max n k + 1, ?_⟩
          have hle : n ≤ max n k + 1 := by omega
          have hle' : k ≤ max n k := by omega
          rw [lpN]
          rw [(envN_mono T hle).code (lpN_mono hle) _ _ _ _ hn]
          exact lpN_mono hle' _ _ _ _ (fun s r h => (envN_mono T (by omega)).code (lpN_mono (by omega)) _ _ _ _ h) hk
        | exit id =>
          refine ⟨n + 1, ?_⟩
          rw [lpN, (envN_mono T (Nat.le_succ n)).code (lpN_mono (Nat.le_succ n)) _ _ _ _ hn]
          exact hm
        | ret =>
          refine ⟨n + 1, ?_⟩
          rw [lpN, (envN_mono T (Nat.le_succ n)).code (lpN_mono (Nat.le_succ n)) _ _ _ _ hn]
          exact hm
  | exit id => exact fun s r hr => ⟨0, hr⟩
  | ret => exact fun s r hr => ⟨0, hr⟩
  | bad => exact fun s r hr => ⟨0, hr⟩
theorem fn_fin (F : PF) (args : List PV) (H : Heap) (r : PV × Heap) (hr : evalF T.env lpI F args H = some r) : ∃ n, evalF (envN T n) (lpN n) F args H = some r := by
  unfold evalF at hr
  split at hr
  · rename_i ha
    cases hx : evalC T.env lpI H.length F.body ⟨Fr.ofArgs 0 args, H⟩ with
    | none => rw [hx] at hr; cases hr
    | some v =>
      obtain ⟨n, hn⟩ := code_fin _ _ _ _ hx
      exact ⟨n, by unfold evalF; rw [if_pos ha, hn]; rw [hx] at hr; exact hr⟩
  · cases hr
end
/-- THE EQUATIONS: a call is its body. -/
theorem val_eq (T : Tab) {f : Nat} {F : PF} (hF : T.F f = some F) (args : List DV) : T.val f args = match evalF T.env lpI F (args.map .d) [] with
    | some (v, H') => purT H' v
    | none => none := by
  apply Option.ext
  intro r
  rw [val_some]
  constructor
  · rintro ⟨n, h⟩
    cases n with
    | zero => cases h
    | succ n =>
      rw [valN_succ, hF] at h
      simp only at h
      split at h
      · rename_i v H' he
        rw [(envN_le T n).fn (lpN_I n) _ _ _ _ he]; exact h
      · cases h
  · intro h
    split at h
    · rename_i v H' he
      obtain ⟨n, hn⟩ := fn_fin _ _ _ _ he
      exact ⟨n + 1, by rw [valN_succ, hF]; simp only [hn]; exact h⟩
    · cases h
theorem ref_eq (T : Tab) {f : Nat} {F : PF} (hF : T.F f = some F) (args : List PV) (H : Heap) : T.ref f args H = match evalF T.env lpI F args H with
    | some (v, H') => some (gcV H.length v H')
    | none => none := by
  apply Option.ext
  intro r
  rw [ref_some]
  constructor
  · rintro ⟨n, h⟩
    cases n with
    | zero => cases h
    | succ n =>
      rw [refN_succ, hF] at h
      simp only at h
      split at h
      · rename_i v H' he
        rw [(envN_le T n).fn (lpN_I n) _ _ _ _ he]; exact h
      · cases h
  · intro h
    split at h
    · rename_i v H' he
      obtain ⟨n, hn⟩ := fn_fin _ _ _ _ he
      exact ⟨n + 1, by rw [refN_succ, hF]; simp only [hn]; exact h⟩
    · cases h
/-- A function that is taken by a contract of its own. -/
theorem val_ext (T : Tab) {f : Nat} (hF : T.F f = none) (args : List DV) : T.val f args = T.X f args := by
  apply Option.ext
  intro r
  rw [val_some]
  constructor
  · rintro ⟨n, h⟩
    cases n with
    | zero => cases h
    | succ n => rw [valN_succ, hF] at h; exact h
  · intro h; exact ⟨1, by rw [valN_succ, hF]; exact h⟩
end Go.Sim
