/- Part 3 of the proof: CbSimB. -/
import Derived.Test.YtkijgkjjbanipaaGreatDoorB1
set_option linter.all false
namespace Go.Sim
noncomputable def limO {α : Type} (g : Nat → Option α) : Option α :=
 open Classical in if h : ∃ n, (g n).isSome = true then g (Classical.choose h) else none
theorem rise {α : Type} {g : Nat → Option α} (hm : ∀ n r, g n = some r → g (n + 1) = some r) (k : Nat) : ∀ n r, g n = some r → g (n + k) = some r := by
 induction k with
 | zero => exact fun n r h => h
 | succ k ih => exact fun n r h => hm _ _ (ih n r h)
theorem rise_le {α : Type} {g : Nat → Option α} (hm : ∀ n r, g n = some r → g (n + 1) = some r) {n m : Nat} (h : n ≤ m) {r : α} (hr : g n = some r) : g m = some r := by
 obtain ⟨k, rfl⟩ := Nat.exists_eq_add_of_le h
 exact rise hm k n r hr
theorem limO_some {α : Type} {g : Nat → Option α} (hm : ∀ n r, g n = some r → g (n + 1) = some r) (r : α) : limO g = some r ↔ ∃ n, g n = some r := by
 unfold limO
 constructor
 ·intro h
  split at h
  ·exact ⟨_, h⟩
  ·cases h
 ·rintro ⟨n, hn⟩
  have h : ∃ n, (g n).isSome = true := ⟨n, by simp [hn]⟩
  rw [dif_pos h]
  obtain ⟨x, hx⟩ := Option.isSome_iff_exists.1 (Classical.choose_spec h)
  have a := rise_le hm (Nat.le_max_left n (Classical.choose h)) hn
  have b := rise_le hm (Nat.le_max_right n (Classical.choose h)) hx
  rw [a] at b
  rw [hx]; exact b.symm
theorem lpN_up : ∀ (n : Nat) (f : St → Res) (s : St) (r : Ex × St), lpN n f s = some r → lpN (n + 1) f s = some r := by
 intro n
 induction n with
 | zero => intro f s r h; cases h
 | succ n ih =>
  intro f s r h
  rw [lpN] at h
  split at h
  ·rename_i s' hs; rw [lpN]; simp only [hs]; exact ih f s' r h
  ·rename_i hs; rw [lpN]; split
   ·rename_i s' hs'; exact absurd hs' (hs s')
   ·exact h
noncomputable def lpI (f : St → Res) (s : St) : Res := limO fun n => lpN n f s
theorem lpI_some (f : St → Res) (s : St) (r : Ex × St) : lpI f s = some r ↔ ∃ n, lpN n f s = some r := limO_some (fun n r h => lpN_up n f s r h) r
theorem lpI_eq (f : St → Res) (s : St) : lpI f s = match f s with | some (.norm, s') => lpI f s' | r => r := by
 apply Option.ext
 intro r
 rw [lpI_some]
 constructor
 ·rintro ⟨n, h⟩
  cases n with
  | zero => cases h
  | succ n =>
   rw [lpN] at h
   split at h
   ·rename_i s' hs; simp only [hs]; rw [lpI_some]; exact ⟨n, h⟩
   ·rename_i hs; split
    ·rename_i s' hs'; exact absurd hs' (hs s')
    ·exact h
 ·intro h
  split at h
  ·rename_i s' hs
   obtain ⟨n, hn⟩ := (lpI_some f s' r).1 h
   exact ⟨n + 1, by rw [lpN]; simp only [hs]; exact hn⟩
  ·rename_i hs
   refine ⟨1, ?_⟩
   rw [lpN]
   split
   ·rename_i s' hs'; exact absurd hs' (hs s')
   ·exact h
def YL (Y Y' : Nat → List PV → Heap → Option (PV × Heap)) : Prop := ∀ o a H r, Y o a H = some r → Y' o a H = some r
theorem YL.refl (Y : Nat → List PV → Heap → Option (PV × Heap)) : YL Y Y := fun _ _ _ _ h => h
structure EL (E E' : Env) : Prop where
 G : E.G = E'.G
 ref : ∀ f a H r, E.ref f a H = some r → E'.ref f a H = some r
 val : ∀ f a r, E.val f a = some r → E'.val f a = some r
 yld : YL E.yld E'.yld
 it : ∀ Y Y', YL Y Y' → ∀ f a H r, E.it Y f a H = some r → E'.it Y' f a H = some r
 dok : E.dok = E'.dok
theorem EL.rd {E E' : Env} (h : EL E E') (fr : Fr) : rd E fr = rd E' fr := by
 funext x; cases x <;> simp [Sim.rd, h.G]
theorem EL.op {E E' : Env} (h : EL E E') (ρ : Rand → PV) (H : Heap) (id : Nat) (op : IOp) (r : PV × Heap) (hr : evalOp E ρ H id op = some r) : evalOp E' ρ H id op = some r := by
 cases op with
 | call m f args =>
  match m with
  | 0 =>
   simp only [evalOp] at hr ⊢
   split at hr
   ·split at hr
    ·rename_i hv; rw [h.val _ _ _ hv]; exact hr
    ·cases hr
   ·cases hr
  | 1 =>
   simp only [evalOp] at hr ⊢
   split at hr
   ·split at hr
    ·rename_i hv; rw [h.val _ _ _ hv]; exact hr
    ·cases hr
   ·cases hr
  | n + 2 => simp only [evalOp] at hr ⊢; exact h.ref _ _ _ _ hr
 | callv x args =>
  simp only [evalOp] at hr ⊢
  split at hr
  ·split at hr
   ·split at hr
    ·rename_i hv; rw [h.val _ _ _ hv]; exact hr
    ·cases hr
   ·exact h.ref _ _ _ _ hr
  ·split at hr
   ·split at hr
    ·rename_i hv; rw [h.val _ _ _ hv]; exact hr
    ·cases hr
   ·exact h.ref _ _ _ _ hr
  ·exact h.yld _ _ _ _ hr
  ·cases hr
 | invk tab x args =>
  simp only [evalOp] at hr ⊢
  split at hr
  ·split at hr
   ·split at hr
    ·split at hr
     ·rename_i hv; rw [h.val _ _ _ hv]; exact hr
     ·cases hr
    ·cases hr
   ·exact h.ref _ _ _ _ hr
   ·cases hr
  ·cases hr
 | _ => exact hr
theorem EL.ops {E E' : Env} (h : EL E E') : ∀ (ops : List IOper) (id : Nat) (s r : St), evalOps E ops id s = some r → evalOps E' ops id s = some r
 | [], _, _, _, hr => hr
 | o :: l, id, s, r, hr => by
  have ih := h.ops l
  have hgo : ∀ x, (match evalOp E (Sim.rd E s.fr) s.H id o.op with
    | some (v, H) => evalOps E l (if o.op.adds then id + 1 else id) ⟨match o.dst with | some t => s.fr.set t v | none => s.fr, H⟩
    | none => none) = some x → (match evalOp E' (Sim.rd E' s.fr) s.H id o.op with
    | some (v, H) => evalOps E' l (if o.op.adds then id + 1 else id) ⟨match o.dst with | some t => s.fr.set t v | none => s.fr, H⟩
    | none => none) = some x := by
   intro x hx
   split at hx
   ·rename_i v H he
    rw [← h.rd, h.op _ _ _ _ _ he]
    exact ih _ _ _ hx
   ·cases hx
  simp only [evalOps] at hr ⊢
  split at hr
  ·exact hgo _ hr
  ·split at hr
   ·split at hr
    ·rename_i hw; simp only [hw, if_true]; exact hgo _ hr
    ·rename_i hw; simp only [hw, if_false, Bool.false_eq_true]; exact ih _ _ _ hr
   ·exact ih _ _ _ hr
   ·cases hr
theorem EL.reg {E E' : Env} (h : EL E E') (ops : List IOper) (kill : List Nat) (s r : St) (hr : evalReg E ops kill s = some r) : evalReg E' ops kill s = some r := by
 unfold evalReg at hr ⊢
 split at hr
 ·rename_i he; rw [h.ops _ _ _ _ he]; exact hr
 ·cases hr
theorem EL.opD {E E' : Env} (h : EL E E') (ρ : Rand → PV) (H : Heap) (id : Nat) (op : IOp) (r : PV × Heap) (hr : evalOpD E ρ H id op = some r) : evalOpD E' ρ H id op = some r := by
 unfold evalOpD at hr ⊢
 split at hr
 ·rename_i hk; rw [if_pos hk]; exact h.op _ _ _ _ _ hr
 ·rename_i hk
  rw [if_neg hk]
  split at hr
  ·rename_i hb
   rw [if_pos hb]
   split at hr
   ·rename_i v H' he
    rw [h.op _ _ _ _ _ he]; exact hr
   ·cases hr
  ·cases hr
theorem EL.writeS {E E' : Env} (h : EL E E') (o : IOper) (id : Nat) (s s' : St) : Sim.writeS E o id s s' = Sim.writeS E' o id s s' := by
 unfold Sim.writeS; rw [h.rd]
theorem EL.touchS {E E' : Env} (h : EL E E') (o : IOper) (s : St) : Sim.touchS E o s = Sim.touchS E' o s := by
 unfold Sim.touchS; rw [h.rd]
theorem EL.stepD {E E' : Env} (h : EL E E') (o : IOper) (id : Nat) (s r : St) (hr : stepD E o id s = some r) : Sim.stepD E' o id s = some r := by
 have hgo : ∀ x, (match evalOpD E (Sim.rd E s.fr) s.H id o.op with
   | some (v, H) => some (⟨match o.dst with | some t => s.fr.set t v | none => s.fr, H⟩ : St)
   | none => none) = some x → (match evalOpD E' (Sim.rd E' s.fr) s.H id o.op with
   | some (v, H) => some (⟨match o.dst with | some t => s.fr.set t v | none => s.fr, H⟩ : St)
   | none => none) = some x := by
  intro x hx
  split at hx
  ·rename_i v H he
   rw [← h.rd, h.opD _ _ _ _ _ he]; exact hx
  ·cases hx
 simp only [Sim.stepD] at hr ⊢
 split at hr
 ·exact hgo _ hr
 ·split at hr
  ·split at hr
   ·rename_i hw; simp only [hw, if_true]; exact hgo _ hr
   ·rename_i hw; simp only [hw, if_false, Bool.false_eq_true]; exact hr
  ·exact hr
  ·cases hr
theorem EL.opsD {E E' : Env} (h : EL E E') : ∀ (ops : List IOper) (bf : List Nat) (acc : List (List Nat × List Nat)) (id : Nat) (s r : St), evalOpsD E ops bf acc id s = some r → evalOpsD E' ops bf acc id s = some r
 | [], _, _, _, _, _, hr => hr
 | o :: l, bf, acc, id, s, r, hr => by
  simp only [evalOpsD] at hr ⊢
  split at hr
  ·rename_i s' hs
   rw [h.stepD _ _ _ _ hs]
   simp only [h.writeS, h.touchS] at hr
   split at hr
   ·rename_i hp; simp only [hp, if_true]; exact h.opsD l _ _ _ _ _ hr
   ·cases hr
  ·cases hr
theorem EL.regD {E E' : Env} (h : EL E E') (ops : List IOper) (bf kill : List Nat) (s r : St) (hr : evalRegD E ops bf kill s = some r) : evalRegD E' ops bf kill s = some r := by
 unfold evalRegD at hr ⊢
 split at hr
 ·rename_i he; rw [h.opsD _ _ _ _ _ _ he]; exact hr
 ·cases hr
def LL (lp lp' : (St → Res) → St → Res) : Prop := ∀ f f' s r, (∀ s r, f s = some r → f' s = some r) → lp f s = some r → lp' f' s = some r
theorem rngY_mono {evA evA' evX evX' : Nat → St → Res} (hA : ∀ b s r, evA b s = some r → evA' b s = some r) (hX : ∀ b s r, evX b s = some r → evX' b s = some r) (fr : Fr) (o : Nat) (ps : List Nat)
  {y y' : Nat → List PV → Heap → Option (PV × Heap)} (hy : YL y y') : YL (rngY evA evX fr o ps y) (rngY evA' evX' fr o ps y') := by
 intro o' args H r h
 unfold rngY at h ⊢
 split at h
 ·rename_i ho
  rw [if_pos ho]
  split at h
  ·rename_i hl
   rw [if_pos hl]
   split at h
   ·rename_i h1
    try rw [h1]
    try simp only
    split at h
    ·rename_i s1 h2
     rw [hA _ _ _ h2]
     try simp only
     split at h
     ·rename_i h3
      try rw [h3]
      try simp only
      split at h
      ·rename_i e s2 h4
       rw [hX _ _ _ h4]
       exact h
      ·cases h
     ·cases h
    ·cases h
   ·cases h
  ·cases h
 ·rename_i ho
  rw [if_neg ho]
  exact hy _ _ _ _ h
theorem EL.code {E E' : Env} (h : EL E E') {lp lp' : (St → Res) → St → Res} (hl : LL lp lp') : ∀ (c : PC) (base : Nat) (s : St) (r : Ex × St), evalC E lp base c s = some r → evalC E' lp' base c s = some r := by
 intro c
 induction c with
 | skip => exact fun base s r hr => hr
 | reg ops kill =>
  intro base s r hr
  simp only [evalC] at hr ⊢
  split at hr
  ·rename_i he; rw [h.reg _ _ _ _ he]; exact hr
  ·cases hr
 | regD ops bf kill =>
  intro base s r hr
  simp only [evalC] at hr ⊢
  split at hr
  ·rename_i he; rw [h.regD _ _ _ _ _ he]; exact hr
  ·cases hr
 | seq a b iha ihb =>
  intro base s r hr
  simp only [evalC] at hr ⊢
  split at hr
  ·rename_i s' he; rw [iha _ _ _ he]; exact ihb _ _ _ hr
  ·rename_i hn
   cases ha : evalC E lp base a s with
   | none => rw [ha] at hr; cases hr
   | some x =>
    rw [iha _ _ _ ha, ← ha]
    obtain ⟨e, s'⟩ := x
    cases e with
    | norm => exact absurd ha (hn s')
    | exit id => rw [ha]; rw [ha] at hr; exact hr
    | ret => rw [ha]; rw [ha] at hr; exact hr
 | cond c x y ihx ihy =>
  intro base s r hr
  simp only [evalC] at hr ⊢
  rw [← h.rd]
  split at hr
  ·rename_i hc; exact ihx _ _ _ hr
  ·rename_i hc; exact ihy _ _ _ hr
  ·cases hr
 | block id x ih =>
  intro base s r hr
  simp only [evalC] at hr ⊢
  cases hx : evalC E lp base x s with
  | none => rw [hx] at hr; cases hr
  | some v => rw [hx] at hr; rw [ih _ _ _ hx]; exact hr
 | loop live x ih =>
  intro base s r hr
  simp only [evalC] at hr ⊢
  exact hl _ _ _ _ (fun s r hs => ih _ _ _ hs) hr
 | rng f g ps live a x iha ihx =>
  intro base s r hr
  simp only [evalC] at hr ⊢
  rw [← h.rd]
  split at hr
  ·rename_i n caps h1 h2
   split at hr
   ·rename_i v H' he
    rw [h.it _ _ (rngY_mono (fun b s r hs => iha b s r hs) (fun b s r hs => ihx b s r hs) _ _ _ h.yld) _ _ _ _ he]
    exact hr
   ·cases hr
  ·cases hr
 | exit id => exact fun base s r hr => hr
 | ret => exact fun base s r hr => hr
 | bad => exact fun base s r hr => hr
theorem EL.runG {E E' : Env} (h : EL E E') (gs : List PV) (H : Heap) (r : Heap) (hr : runG E gs H = some r) : Sim.runG E' gs H = some r := by
 unfold Sim.runG at hr ⊢
 split at hr
 ·exact hr
 ·exact hr
 ·split at hr
  ·rename_i hd
   rw [h.dok] at hd
   split at hr
   ·rename_i he; simp only [hd, if_true, h.ref _ _ _ _ he]; exact hr
   ·cases hr
  ·cases hr
 ·cases hr
theorem EL.fn {E E' : Env} (h : EL E E') {lp lp' : (St → Res) → St → Res} (hl : LL lp lp') (F : PF) (args : List PV) (H : Heap) (r : PV × Heap) (hr : evalF E lp F args H = some r) : evalF E' lp' F args H = some r := by
 unfold evalF at hr ⊢
 split at hr
 ·rename_i ha
  rw [if_pos ha]
  split at hr
  ·rename_i s hx
   rw [h.code hl _ _ _ _ hx]
   simp only
   split at hr
   ·rename_i H' hg; rw [h.runG _ _ _ hg]; exact hr
   ·cases hr
  ·rename_i s hx
   rw [h.code hl _ _ _ _ hx]
   simp only
   split at hr
   ·rename_i H' hg; rw [h.runG _ _ _ hg]; exact hr
   ·cases hr
  ·cases hr
 ·cases hr
theorem lpN_LL (n : Nat) : LL (lpN n) (lpN (n + 1)) := by
 induction n with
 | zero => intro f f' s r _ h; cases h
 | succ n ih =>
  intro f f' s r hf h
  rw [lpN] at h ⊢
  split at h
  ·rename_i s' hs; rw [hf _ _ hs]; exact ih _ _ _ _ hf h
  ·rename_i hn
   cases hs : f s with
   | none => rw [hs] at h; cases h
   | some v =>
    rw [hf _ _ hs]
    rw [hs] at h
    obtain ⟨e, s'⟩ := v
    cases e with
    | norm => exact absurd hs (hn s')
    | exit id => exact h
    | ret => exact h
theorem lpN_LLr (n : Nat) : LL (lpN n) (lpN n) := by
 induction n with
 | zero => intro f f' s r _ h; cases h
 | succ n ih =>
  intro f f' s r hf h
  rw [lpN] at h ⊢
  split at h
  ·rename_i s' hs; rw [hf _ _ hs]; exact ih _ _ _ _ hf h
  ·rename_i hn
   cases hs : f s with
   | none => rw [hs] at h; cases h
   | some v =>
    rw [hf _ _ hs]
    rw [hs] at h
    obtain ⟨e, s'⟩ := v
    cases e with
    | norm => exact absurd hs (hn s')
    | exit id => exact h
    | ret => exact h
theorem lpN_mono {n m : Nat} (h : n ≤ m) : LL (lpN n) (lpN m) := by
 obtain ⟨k, rfl⟩ := Nat.exists_eq_add_of_le h
 induction k with
 | zero => exact lpN_LLr n
 | succ k ih =>
  intro f f' s r hf h
  exact lpN_LL (n + k) _ _ _ _ hf (ih (by omega) _ _ _ _ (fun _ _ h => h) h)
theorem lpN_I (n : Nat) : LL (lpN n) lpI := fun _ f' s r hf h => (lpI_some f' s r).2 ⟨n, lpN_mono (Nat.le_refl n) _ _ _ _ hf h⟩
def envY (T : Tab) (n : Nat) (Y : Nat → List PV → Heap → Option (PV × Heap)) : Env := ⟨T.G, refN T n, valN T n, Y, itN T n, T.dok⟩
def envN (T : Tab) (n : Nat) : Env := envY T n noY
theorem itN_succ (T : Tab) (n : Nat) (Y : Nat → List PV → Heap → Option (PV × Heap)) (f : Nat) (args : List PV) (H : Heap) : itN T (n + 1) Y f args H = match T.F f with
  | some F => match evalF (envY T n Y) (lpN n) F args H with
   | some (v, H') => some (gcV H.length v H')
   | none => none
  | none => T.R f args H := by rw [itN]; rfl
theorem valN_succ (T : Tab) (n f : Nat) (args : List DV) : valN T (n + 1) f args = match T.F f with
  | some F => match evalF (envN T n) (lpN n) F (args.map .d) [] with
   | some (v, H') => purT H' v
   | none => none
  | none => T.X f args := by rw [valN]; rfl
theorem envY_up (T : Tab) : ∀ n Y Y', YL Y Y' → EL (envY T n Y) (envY T n Y') ∧ EL (envY T n Y) (envY T (n + 1) Y') := by
 intro n
 induction n with
 | zero =>
  intro Y Y' hY
  exact ⟨⟨rfl, fun _ _ _ _ h => h, fun _ _ _ h => h, hY, fun _ _ _ _ _ _ _ h => by simp [envY, itN] at h, rfl⟩,
   ⟨rfl, fun _ _ _ _ h => by simp [envY, refN, itN] at h, fun _ _ _ h => by simp [envY, valN] at h, hY, fun _ _ _ _ _ _ _ h => by simp [envY, itN] at h, rfl⟩⟩
 | succ n ih =>
  intro Y Y' hY
  have hit : ∀ Y Y', YL Y Y' → ∀ f a H r, itN T (n + 1) Y f a H = some r → itN T (n + 1) Y' f a H = some r := by
   intro Y Y' hY f a H r h
   rw [itN_succ] at h ⊢
   split at h
   ·rename_i F hF
    split at h
    ·rename_i v H' he
     rw [EL.fn (ih Y Y' hY).1 (lpN_LLr n) _ _ _ _ he]; exact h
    ·cases h
   ·exact h
  have hup : ∀ Y Y', YL Y Y' → ∀ f a H r, itN T (n + 1) Y f a H = some r → itN T (n + 1 + 1) Y' f a H = some r := by
   intro Y Y' hY f a H r h
   rw [itN_succ] at h ⊢
   split at h
   ·rename_i F hF
    split at h
    ·rename_i v H' he
     rw [EL.fn (ih Y Y' hY).2 (lpN_LL n) _ _ _ _ he]; exact h
    ·cases h
   ·exact h
  refine ⟨⟨rfl, fun _ _ _ _ h => h, fun _ _ _ h => h, hY, hit, rfl⟩, ⟨rfl, fun f a H r h => hup noY noY (YL.refl _) f a H r h, fun f a r h => ?_, hY, hup, rfl⟩⟩
  change valN T (n + 1) f a = some r at h
  change valN T (n + 1 + 1) f a = some r
  rw [valN_succ] at h ⊢
  split at h
  ·rename_i F hF
   split at h
   ·rename_i v H' he
    have he' : evalF (envN T (n + 1)) (lpN (n + 1)) F (a.map .d) [] = some (v, H') := EL.fn (ih noY noY (YL.refl _)).2 (lpN_LL n) _ _ _ _ he
    rw [he']; exact h
   ·cases h
  ·exact h
theorem EL.trans {A B C : Env} (h : EL A B) (k : EL B C) : EL A C :=
 ⟨h.G.trans k.G, fun _f _a _H _r x => k.ref _ _ _ _ (h.ref _ _ _ _ x), fun _f _a _r x => k.val _ _ _ (h.val _ _ _ x), fun _o _a _H _r x => k.yld _ _ _ _ (h.yld _ _ _ _ x), fun _Y _Y' hY _f _a _H _r x => k.it _ _ (YL.refl _) _ _ _ _ (h.it _ _ hY _ _ _ _ x), h.dok.trans k.dok⟩
theorem envY_mono (T : Tab) {n m : Nat} (h : n ≤ m) {Y Y' : Nat → List PV → Heap → Option (PV × Heap)} (hY : YL Y Y') : EL (envY T n Y) (envY T m Y') := by
 obtain ⟨k, rfl⟩ := Nat.exists_eq_add_of_le h
 induction k with
 | zero => exact (envY_up T n Y Y' hY).1
 | succ k ih => exact EL.trans (ih (by omega)) (envY_up T (n + k) Y' Y' (YL.refl _)).2
theorem envN_mono (T : Tab) {n m : Nat} (h : n ≤ m) : EL (envN T n) (envN T m) := envY_mono T h (YL.refl _)
noncomputable def Tab.it (T : Tab) (Y : Nat → List PV → Heap → Option (PV × Heap)) (f : Nat) (args : List PV) (H : Heap) : Option (PV × Heap) := limO fun n => itN T n Y f args H
noncomputable def Tab.ref (T : Tab) (f : Nat) (args : List PV) (H : Heap) : Option (PV × Heap) := T.it noY f args H
noncomputable def Tab.val (T : Tab) (f : Nat) (args : List DV) : Option (PV × Bool) := limO fun n => valN T n f args
theorem it_some (T : Tab) (Y : Nat → List PV → Heap → Option (PV × Heap)) (f : Nat) (args : List PV) (H : Heap) (r : PV × Heap) : T.it Y f args H = some r ↔ ∃ n, itN T n Y f args H = some r :=
 limO_some (fun n r h => (envY_mono T (Nat.le_succ n) (YL.refl noY)).it _ _ (YL.refl Y) f args H r h) r
theorem ref_some (T : Tab) (f : Nat) (args : List PV) (H : Heap) (r : PV × Heap) : T.ref f args H = some r ↔ ∃ n, refN T n f args H = some r := it_some T noY f args H r
theorem val_some (T : Tab) (f : Nat) (args : List DV) (r : PV × Bool) : T.val f args = some r ↔ ∃ n, valN T n f args = some r :=
 limO_some (fun n r h => (envN_mono T (Nat.le_succ n)).val f args r h) r
noncomputable def Tab.envY (T : Tab) (Y : Nat → List PV → Heap → Option (PV × Heap)) : Env := ⟨T.G, T.ref, T.val, Y, T.it, T.dok⟩
noncomputable def Tab.env (T : Tab) : Env := T.envY noY
theorem envY_le (T : Tab) (n : Nat) {Y Y' : Nat → List PV → Heap → Option (PV × Heap)} (hY : YL Y Y') : EL (envY T n Y) (T.envY Y') :=
 ⟨rfl, fun f a H r h => (ref_some T f a H r).2 ⟨n, h⟩, fun f a r h => (val_some T f a r).2 ⟨n, h⟩, hY, fun _Y Y' hY f a H r h => (it_some T Y' f a H r).2 ⟨n, (envY_mono T (Nat.le_refl n) (YL.refl noY)).it _ _ hY f a H r h⟩, rfl⟩
theorem envN_le (T : Tab) (n : Nat) : EL (envN T n) T.env := envY_le T n (YL.refl _)
structure YC (Yn : Nat → Nat → List PV → Heap → Option (PV × Heap)) (Y : Nat → List PV → Heap → Option (PV × Heap)) : Prop where
 mono : ∀ n m, n ≤ m → YL (Yn n) (Yn m)
 fin : ∀ o a H r, Y o a H = some r → ∃ n, Yn n o a H = some r
structure Ch (En : Nat → Env) (ln : Nat → (St → Res) → St → Res) (E : Env) (l : (St → Res) → St → Res) : Prop where
 mono : ∀ n m, n ≤ m → EL (En n) (En m)
 lmono : ∀ n m, n ≤ m → LL (ln n) (ln m)
 G : ∀ n, (En n).G = E.G
 ref : ∀ f a H r, E.ref f a H = some r → ∃ n, (En n).ref f a H = some r
 val : ∀ f a r, E.val f a = some r → ∃ n, (En n).val f a = some r
 yld : ∀ o a H r, E.yld o a H = some r → ∃ n, (En n).yld o a H = some r
 it : ∀ Yn Y, YC Yn Y → ∀ f a H r, E.it Y f a H = some r → ∃ n, (En n).it (Yn n) f a H = some r
 dok : ∀ n, (En n).dok = E.dok
 lp : ∀ (fn : Nat → St → Res) (f : St → Res), (∀ n m, n ≤ m → ∀ s r, fn n s = some r → fn m s = some r) → (∀ s r, f s = some r → ∃ n, fn n s = some r) → ∀ s r, l f s = some r → ∃ n, ln n (fn n) s = some r
section
variable {En : Nat → Env} {ln : Nat → (St → Res) → St → Res} {E : Env} {l : (St → Res) → St → Res}
theorem Ch.rd (h : Ch En ln E l) (n : Nat) (fr : Fr) : Sim.rd (En n) fr = Sim.rd E fr := by
 funext x; cases x <;> simp [Sim.rd, h.G]
theorem op_fin (h : Ch En ln E l) (ρ : Rand → PV) (H : Heap) (id : Nat) (op : IOp) (r : PV × Heap) (hr : evalOp E ρ H id op = some r) : ∃ n, evalOp (En n) ρ H id op = some r := by
 cases op with
 | call m f args =>
  match m with
  | 0 =>
   simp only [evalOp] at hr
   split at hr
   ·split at hr
    ·rename_i hp _ _ _ hv
     obtain ⟨n, hn⟩ := h.val _ _ _ hv
     exact ⟨n, by simp only [evalOp, hp, hn]; exact hr⟩
    ·cases hr
   ·cases hr
  | 1 =>
   simp only [evalOp] at hr
   split at hr
   ·split at hr
    ·rename_i hp _ _ _ _ hv
     obtain ⟨n, hn⟩ := h.val _ _ _ hv
     exact ⟨n, by simp only [evalOp, hp, hn]; exact hr⟩
    ·cases hr
   ·cases hr
  | m + 2 =>
   simp only [evalOp] at hr
   obtain ⟨n, hn⟩ := h.ref _ _ _ _ hr
   exact ⟨n, by simp only [evalOp]; exact hn⟩
 | callv x args =>
  simp only [evalOp] at hr
  split at hr
  ·rename_i hx
   split at hr
   ·rename_i hq
    split at hr
    ·rename_i hv
     obtain ⟨n, hn⟩ := h.val _ _ _ hv
     exact ⟨n, by simp only [evalOp, hx, hq, hn]; exact hr⟩
    ·cases hr
   ·rename_i hq
    obtain ⟨n, hn⟩ := h.ref _ _ _ _ hr
    exact ⟨n, by simp only [evalOp, hx, hq]; exact hn⟩
  ·rename_i hx
   split at hr
   ·rename_i hq
    split at hr
    ·rename_i hv
     obtain ⟨n, hn⟩ := h.val _ _ _ hv
     exact ⟨n, by simp only [evalOp, hx, hq, hn]; exact hr⟩
    ·cases hr
   ·rename_i hq
    obtain ⟨n, hn⟩ := h.ref _ _ _ _ hr
    exact ⟨n, by simp only [evalOp, hx, hq]; exact hn⟩
  ·rename_i hx
   obtain ⟨n, hn⟩ := h.yld _ _ _ _ hr
   exact ⟨n, by simp only [evalOp, hx]; exact hn⟩
  ·cases hr
 | invk tab x args =>
  simp only [evalOp] at hr
  split at hr
  ·rename_i hx
   split at hr
   ·rename_i ht
    split at hr
    ·rename_i hp
     split at hr
     ·rename_i hv
      obtain ⟨n, hn⟩ := h.val _ _ _ hv
      exact ⟨n, by simp only [evalOp, hx, ht, hp, hn]; exact hr⟩
     ·cases hr
    ·cases hr
   ·rename_i ht
    obtain ⟨n, hn⟩ := h.ref _ _ _ _ hr
    refine ⟨n, ?_⟩
    simp only [evalOp, hx, ht]
    exact hn
   ·cases hr
  ·cases hr
 | _ => exact ⟨0, hr⟩
theorem ops_fin (h : Ch En ln E l) : ∀ (ops : List IOper) (id : Nat) (s r : St), evalOps E ops id s = some r → ∃ n, evalOps (En n) ops id s = some r
 | [], _, _, _, hr => ⟨0, hr⟩
 | o :: l, id, s, r, hr => by
  have hgo : ∀ x, (match evalOp E (rd E s.fr) s.H id o.op with
    | some (v, H) => evalOps E l (if o.op.adds then id + 1 else id) ⟨match o.dst with | some t => s.fr.set t v | none => s.fr, H⟩
    | none => none) = some x → ∃ n, (match evalOp (En n) (rd (En n) s.fr) s.H id o.op with
    | some (v, H) => evalOps (En n) l (if o.op.adds then id + 1 else id) ⟨match o.dst with | some t => s.fr.set t v | none => s.fr, H⟩
    | none => none) = some x := by
   intro x hx
   split at hx
   ·rename_i v H he
    obtain ⟨n, hn⟩ := op_fin h _ _ _ _ _ he
    obtain ⟨m, hm⟩ := ops_fin h l _ _ _ hx
    refine ⟨max n m, ?_⟩
    rw [h.rd, (h.mono _ _ (Nat.le_max_left n m)).op _ _ _ _ _ hn]
    exact (h.mono _ _ (Nat.le_max_right n m)).ops _ _ _ _ hm
   ·cases hx
  simp only [evalOps] at hr ⊢
  split at hr
  ·exact hgo _ hr
  ·split at hr
   ·split at hr
    ·rename_i hw; simp only [hw, if_true]; exact hgo _ hr
    ·rename_i hw; simp only [hw, if_false, Bool.false_eq_true]; exact ops_fin h l _ _ _ hr
   ·exact ops_fin h l _ _ _ hr
   ·cases hr
theorem reg_fin (h : Ch En ln E l) (ops : List IOper) (kill : List Nat) (s r : St) (hr : evalReg E ops kill s = some r) : ∃ n, evalReg (En n) ops kill s = some r := by
 unfold evalReg at hr
 split at hr
 ·rename_i he
  obtain ⟨n, hn⟩ := ops_fin h _ _ _ _ he
  exact ⟨n, by unfold evalReg; rw [hn]; exact hr⟩
 ·cases hr
theorem opD_fin (h : Ch En ln E l) (ρ : Rand → PV) (H : Heap) (id : Nat) (op : IOp) (r : PV × Heap) (hr : evalOpD E ρ H id op = some r) : ∃ n, evalOpD (En n) ρ H id op = some r := by
 unfold evalOpD at hr
 split at hr
 ·rename_i hk
  obtain ⟨n, hn⟩ := op_fin h _ _ _ _ _ hr
  exact ⟨n, by unfold evalOpD; rw [if_pos hk]; exact hn⟩
 ·rename_i hk
  split at hr
  ·rename_i hb
   split at hr
   ·rename_i v H' he
    obtain ⟨n, hn⟩ := op_fin h _ _ _ _ _ he
    exact ⟨n, by unfold evalOpD; rw [if_neg hk, if_pos hb, hn]; exact hr⟩
   ·cases hr
  ·cases hr
theorem stepD_fin (h : Ch En ln E l) (o : IOper) (id : Nat) (s r : St) (hr : stepD E o id s = some r) : ∃ n, stepD (En n) o id s = some r := by
 have hgo : ∀ x, (match evalOpD E (rd E s.fr) s.H id o.op with
   | some (v, H) => some (⟨match o.dst with | some t => s.fr.set t v | none => s.fr, H⟩ : St)
   | none => none) = some x → ∃ n, (match evalOpD (En n) (rd (En n) s.fr) s.H id o.op with
   | some (v, H) => some (⟨match o.dst with | some t => s.fr.set t v | none => s.fr, H⟩ : St)
   | none => none) = some x := by
  intro x hx
  split at hx
  ·rename_i v H he
   obtain ⟨n, hn⟩ := opD_fin h _ _ _ _ _ he
   exact ⟨n, by rw [h.rd, hn]; exact hx⟩
  ·cases hx
 simp only [stepD] at hr ⊢
 split at hr
 ·exact hgo _ hr
 ·split at hr
  ·split at hr
   ·rename_i hw; simp only [hw, if_true]; exact hgo _ hr
   ·rename_i hw; simp only [hw, if_false, Bool.false_eq_true]; exact ⟨0, hr⟩
  ·exact ⟨0, hr⟩
  ·cases hr
theorem opsD_fin (h : Ch En ln E l) : ∀ (ops : List IOper) (bf : List Nat) (acc : List (List Nat × List Nat)) (id : Nat) (s r : St), evalOpsD E ops bf acc id s = some r → ∃ n, evalOpsD (En n) ops bf acc id s = some r
 | [], _, _, _, _, _, hr => ⟨0, hr⟩
 | o :: l, bf, acc, id, s, r, hr => by
  simp only [evalOpsD] at hr
  split at hr
  ·rename_i s' hs
   obtain ⟨n, hn⟩ := stepD_fin h _ _ _ _ hs
   have hw : ∀ n, Sim.writeS (En n) o id s s' = Sim.writeS E o id s s' := fun n => by unfold Sim.writeS; rw [h.rd]
   have ht : ∀ n, Sim.touchS (En n) o s = Sim.touchS E o s := fun n => by unfold Sim.touchS; rw [h.rd]
   split at hr
   ·rename_i hp
    obtain ⟨m, hm⟩ := opsD_fin h l _ _ _ _ _ hr
    refine ⟨max n m, ?_⟩
    simp only [evalOpsD]
    rw [(h.mono _ _ (Nat.le_max_left n m)).stepD _ _ _ _ hn]
    simp only [hw, ht, hp, if_true]
    exact (h.mono _ _ (Nat.le_max_right n m)).opsD _ _ _ _ _ _ hm
   ·cases hr
  ·cases hr
theorem regD_fin (h : Ch En ln E l) (ops : List IOper) (bf kill : List Nat) (s r : St) (hr : evalRegD E ops bf kill s = some r) : ∃ n, evalRegD (En n) ops bf kill s = some r := by
 unfold evalRegD at hr
 split at hr
 ·rename_i he
  obtain ⟨n, hn⟩ := opsD_fin h _ _ _ _ _ _ he
  exact ⟨n, by unfold evalRegD; rw [hn]; exact hr⟩
 ·cases hr
theorem rngY_fin {an xn : Nat → Nat → St → Res} {a x : Nat → St → Res} (ha : ∀ b s r, a b s = some r → ∃ n, an n b s = some r) (hx : ∀ b s r, x b s = some r → ∃ n, xn n b s = some r)
  (ma : ∀ n m, n ≤ m → ∀ b s r, an n b s = some r → an m b s = some r) (mx : ∀ n m, n ≤ m → ∀ b s r, xn n b s = some r → xn m b s = some r) (fr : Fr) (o : Nat) (ps : List Nat)
  {yn : Nat → Nat → List PV → Heap → Option (PV × Heap)} {y : Nat → List PV → Heap → Option (PV × Heap)} (hy : YC yn y) : YC (fun n => rngY (an n) (xn n) fr o ps (yn n)) (rngY a x fr o ps y) := by
 refine ⟨fun n m hnm => rngY_mono (ma n m hnm) (mx n m hnm) fr o ps (hy.mono n m hnm), ?_⟩
 intro o' args H r h
 unfold rngY at h
 split at h
 ·rename_i ho
  split at h
  ·rename_i hl
   split at h
   ·rename_i h1
    split at h
    ·rename_i s1 h2
     split at h
     ·rename_i h3
      split at h
      ·rename_i e s2 h4
       obtain ⟨n, hn⟩ := ha _ _ _ h2
       obtain ⟨m, hm⟩ := hx _ _ _ h4
       refine ⟨max n m, ?_⟩
       unfold rngY
       rw [if_pos ho, if_pos hl, h1]
       simp only
       rw [ma _ _ (Nat.le_max_left n m) _ _ _ hn]
       simp only
       rw [h3]
       simp only
       rw [mx _ _ (Nat.le_max_right n m) _ _ _ hm]
       exact h
      ·cases h
     ·cases h
    ·cases h
   ·cases h
  ·cases h
 ·rename_i ho
  obtain ⟨n, hn⟩ := hy.fin _ _ _ _ h
  exact ⟨n, by unfold rngY; rw [if_neg ho]; exact hn⟩
theorem Ch.cmono (h : Ch En ln E l) {n m : Nat} (hnm : n ≤ m) (c : PC) (base : Nat) (s : St) (r : Ex × St) (hr : evalC (En n) (ln n) base c s = some r) : evalC (En m) (ln m) base c s = some r :=
 (h.mono n m hnm).code (h.lmono n m hnm) c base s r hr
theorem code_fin (h : Ch En ln E l) : ∀ (c : PC) (base : Nat) (s : St) (r : Ex × St), evalC E l base c s = some r → ∃ n, evalC (En n) (ln n) base c s = some r := by
 intro c
 induction c with
 | skip => exact fun base s r hr => ⟨0, hr⟩
 | reg ops kill =>
  intro base s r hr
  simp only [evalC] at hr ⊢
  split at hr
  ·rename_i he
   obtain ⟨n, hn⟩ := reg_fin h _ _ _ _ he
   exact ⟨n, by rw [hn]; exact hr⟩
  ·cases hr
 | regD ops bf kill =>
  intro base s r hr
  simp only [evalC] at hr ⊢
  split at hr
  ·rename_i he
   obtain ⟨n, hn⟩ := regD_fin h _ _ _ _ _ he
   exact ⟨n, by rw [hn]; exact hr⟩
  ·cases hr
 | seq a b iha ihb =>
  intro base s r hr
  simp only [evalC] at hr
  cases ha : evalC E l base a s with
  | none => rw [ha] at hr; cases hr
  | some x =>
   obtain ⟨n, hn⟩ := iha _ _ _ ha
   rw [ha] at hr
   obtain ⟨e, s'⟩ := x
   cases e with
   | norm =>
    obtain ⟨m, hm⟩ := ihb _ _ _ hr
    refine ⟨max n m, ?_⟩
    simp only [evalC]
    rw [h.cmono (Nat.le_max_left n m) _ _ _ _ hn]
    exact h.cmono (Nat.le_max_right n m) _ _ _ _ hm
   | exit id => exact ⟨n, by simp only [evalC, hn]; exact hr⟩
   | ret => exact ⟨n, by simp only [evalC, hn]; exact hr⟩
 | cond c x y ihx ihy =>
  intro base s r hr
  simp only [evalC] at hr ⊢
  split at hr
  ·rename_i hc
   obtain ⟨n, hn⟩ := ihx _ _ _ hr
   exact ⟨n, by rw [h.rd, hc]; exact hn⟩
  ·rename_i hc
   obtain ⟨n, hn⟩ := ihy _ _ _ hr
   exact ⟨n, by rw [h.rd, hc]; exact hn⟩
  ·cases hr
 | block id x ih =>
  intro base s r hr
  simp only [evalC] at hr ⊢
  cases hx : evalC E l base x s with
  | none => rw [hx] at hr; cases hr
  | some v =>
   obtain ⟨n, hn⟩ := ih _ _ _ hx
   exact ⟨n, by rw [hn]; rw [hx] at hr; exact hr⟩
 | loop live x ih =>
  intro base s r hr
  simp only [evalC] at hr ⊢
  exact h.lp (fun n s => evalC (En n) (ln n) base x (gc live base s)) _ (fun n m hnm s r hs => h.cmono hnm _ _ _ _ hs) (fun s r hs => ih _ _ _ hs) s r hr
 | rng f g ps live a x iha ihx =>
  intro base s r hr
  simp only [evalC] at hr ⊢
  split at hr
  ·rename_i k caps h1 h2
   split at hr
   ·rename_i v H' he
    obtain ⟨n, hn⟩ := h.it _ _ (rngY_fin (fun b s r hs => iha b s r hs) (fun b s r hs => ihx b s r hs) (fun n m hnm b s r hs => h.cmono hnm _ _ _ _ hs) (fun n m hnm b s r hs => h.cmono hnm _ _ _ _ hs) _ _ _
     ⟨fun n m hnm => (h.mono n m hnm).yld, h.yld⟩) _ _ _ _ he
    refine ⟨n, ?_⟩
    rw [h.rd, h1, h2]
    simp only
    rw [hn]
    exact hr
   ·cases hr
  ·cases hr
 | exit id => exact fun base s r hr => ⟨0, hr⟩
 | ret => exact fun base s r hr => ⟨0, hr⟩
 | bad => exact fun base s r hr => ⟨0, hr⟩
theorem runG_fin (h : Ch En ln E l) (gs : List PV) (H r : Heap) (hr : runG E gs H = some r) : ∃ n, runG (En n) gs H = some r := by
 unfold runG at hr
 split at hr
 ·exact ⟨0, by unfold runG; exact hr⟩
 ·exact ⟨0, by unfold runG; exact hr⟩
 ·split at hr
  ·rename_i hd
   split at hr
   ·rename_i he
    obtain ⟨n, hn⟩ := h.ref _ _ _ _ he
    have hd' := hd
    rw [← h.dok n] at hd'
    exact ⟨n, by unfold runG; simp only [hd', if_true, hn]; exact hr⟩
   ·cases hr
  ·cases hr
 ·cases hr
theorem fn_fin (h : Ch En ln E l) (F : PF) (args : List PV) (H : Heap) (r : PV × Heap) (hr : evalF E l F args H = some r) : ∃ n, evalF (En n) (ln n) F args H = some r := by
 unfold evalF at hr
 split at hr
 ·rename_i ha
  split at hr
  ·rename_i s hx
   split at hr
   ·rename_i H' hg
    obtain ⟨n, hn⟩ := code_fin h _ _ _ _ hx
    obtain ⟨m, hm⟩ := runG_fin h _ _ _ hg
    refine ⟨max n m, ?_⟩
    unfold evalF
    rw [if_pos ha, h.cmono (Nat.le_max_left n m) _ _ _ _ hn]
    simp only
    rw [(h.mono _ _ (Nat.le_max_right n m)).runG _ _ _ hm]
    exact hr
   ·cases hr
  ·rename_i s hx
   split at hr
   ·rename_i H' hg
    obtain ⟨n, hn⟩ := code_fin h _ _ _ _ hx
    obtain ⟨m, hm⟩ := runG_fin h _ _ _ hg
    refine ⟨max n m, ?_⟩
    unfold evalF
    rw [if_pos ha, h.cmono (Nat.le_max_left n m) _ _ _ _ hn]
    simp only
    rw [(h.mono _ _ (Nat.le_max_right n m)).runG _ _ _ hm]
    exact hr
   ·cases hr
  ·cases hr
 ·cases hr
end
theorem lpN_cont (m : Nat) : ∀ (fn : Nat → St → Res) (f : St → Res), (∀ n m, n ≤ m → ∀ s r, fn n s = some r → fn m s = some r) → (∀ s r, f s = some r → ∃ n, fn n s = some r) → ∀ s r, lpN m f s = some r → ∃ n, lpN m (fn n) s = some r := by
 induction m with
 | zero => intro fn f _ _ s r h; cases h
 | succ m ih =>
  intro fn f hm hf s r h
  rw [lpN] at h
  cases hs : f s with
  | none => rw [hs] at h; cases h
  | some v =>
   obtain ⟨n, hn⟩ := hf _ _ hs
   rw [hs] at h
   obtain ⟨e, s'⟩ := v
   cases e with
   | norm =>
    obtain ⟨k, hk⟩ := ih fn f hm hf s' r h
    refine ⟨max n k, ?_⟩
    rw [lpN, hm _ _ (Nat.le_max_left n k) _ _ hn]
    exact lpN_LLr m _ _ _ _ (hm _ _ (Nat.le_max_right n k)) hk
   | exit id => exact ⟨n, by rw [lpN, hn]; exact h⟩
   | ret => exact ⟨n, by rw [lpN, hn]; exact h⟩
theorem it_cont (T : Tab) : ∀ m Yn Y, YC Yn Y → ∀ f a H r, itN T m Y f a H = some r → ∃ n, itN T m (Yn n) f a H = some r := by
 intro m
 induction m with
 | zero => intro Yn Y _ f a H r h; simp [itN] at h
 | succ m ih =>
  intro Yn Y hY f a H r h
  rw [itN_succ] at h
  split at h
  ·rename_i F hF
   split at h
   ·rename_i v H' he
    have hch : Ch (fun n => envY T m (Yn n)) (fun _ => lpN m) (envY T m Y) (lpN m) :=
     ⟨fun n k hnk => envY_mono T (Nat.le_refl m) (hY.mono n k hnk), fun _ _ _ => lpN_LLr m, fun _ => rfl, fun _ _ _ _ h => ⟨0, h⟩, fun _ _ _ h => ⟨0, h⟩, hY.fin, fun Yn' Y' hY' f a H r h => ih Yn' Y' hY' f a H r h, fun _ => rfl, lpN_cont m⟩
    obtain ⟨n, hn⟩ := fn_fin hch _ _ _ _ he
    exact ⟨n, by rw [itN_succ, hF]; simp only [hn]; exact h⟩
   ·cases h
  ·rename_i hF
   exact ⟨0, by rw [itN_succ, hF]; exact h⟩
theorem ch_lim (T : Tab) {Yn : Nat → Nat → List PV → Heap → Option (PV × Heap)} {Y : Nat → List PV → Heap → Option (PV × Heap)} (hY : YC Yn Y) : Ch (fun n => envY T n (Yn n)) lpN (T.envY Y) lpI := by
 refine ⟨fun n m hnm => envY_mono T hnm (hY.mono n m hnm), fun n m hnm => lpN_mono hnm, fun _ => rfl, fun f a H r h => (ref_some T f a H r).1 h, fun f a r h => (val_some T f a r).1 h, hY.fin, ?_, fun _ => rfl, ?_⟩
 ·intro Yn' Y' hY' f a H r h
  obtain ⟨m, hm⟩ := (it_some T Y' f a H r).1 h
  obtain ⟨n, hn⟩ := it_cont T m Yn' Y' hY' f a H r hm
  exact ⟨max m n, (envY_mono T (Nat.le_max_left m n) (YL.refl noY)).it _ _ (hY'.mono _ _ (Nat.le_max_right m n)) f a H r hn⟩
 ·intro fn f hm hf s r h
  obtain ⟨m, hk⟩ := (lpI_some f s r).1 h
  obtain ⟨n, hn⟩ := lpN_cont m fn f hm hf s r hk
  exact ⟨max m n, lpN_mono (Nat.le_max_left m n) _ _ _ _ (hm _ _ (Nat.le_max_right m n)) hn⟩
theorem ch_const (Y : Nat → List PV → Heap → Option (PV × Heap)) : YC (fun _ => Y) Y := ⟨fun _ _ _ => YL.refl Y, fun _ _ _ _ h => ⟨0, h⟩⟩
theorem val_eq (T : Tab) {f : Nat} {F : PF} (hF : T.F f = some F) (args : List DV) : T.val f args = match evalF T.env lpI F (args.map .d) [] with
  | some (v, H') => purT H' v
  | none => none := by
 apply Option.ext
 intro r
 rw [val_some]
 constructor
 ·rintro ⟨n, h⟩
  cases n with
  | zero => cases h
  | succ n =>
   rw [valN_succ, hF] at h
   simp only at h
   split at h
   ·rename_i v H' he
    rw [(envN_le T n).fn (lpN_I n) _ _ _ _ he]; exact h
   ·cases h
 ·intro h
  split at h
  ·rename_i v H' he
   obtain ⟨n, hn⟩ := fn_fin (ch_lim T (ch_const noY)) _ _ _ _ he
   refine ⟨n + 1, ?_⟩
   rw [valN_succ, hF]
   simp only
   have hn' : evalF (envN T n) (lpN n) F (args.map .d) [] = some (v, H') := hn
   rw [hn']; exact h
  ·cases h
theorem it_eq (T : Tab) {f : Nat} {F : PF} (hF : T.F f = some F) (Y : Nat → List PV → Heap → Option (PV × Heap)) (args : List PV) (H : Heap) : T.it Y f args H = match evalF (T.envY Y) lpI F args H with
  | some (v, H') => some (gcV H.length v H')
  | none => none := by
 apply Option.ext
 intro r
 rw [it_some]
 constructor
 ·rintro ⟨n, h⟩
  cases n with
  | zero => simp [itN] at h
  | succ n =>
   rw [itN_succ, hF] at h
   simp only at h
   split at h
   ·rename_i v H' he
    rw [(envY_le T n (YL.refl Y)).fn (lpN_I n) _ _ _ _ he]; exact h
   ·cases h
 ·intro h
  split at h
  ·rename_i v H' he
   obtain ⟨n, hn⟩ := fn_fin (ch_lim T (ch_const Y)) _ _ _ _ he
   exact ⟨n + 1, by rw [itN_succ, hF]; simp only [hn]; exact h⟩
  ·cases h
theorem ref_eq (T : Tab) {f : Nat} {F : PF} (hF : T.F f = some F) (args : List PV) (H : Heap) : T.ref f args H = match evalF T.env lpI F args H with
  | some (v, H') => some (gcV H.length v H')
  | none => none := it_eq T hF noY args H
end Go.Sim

