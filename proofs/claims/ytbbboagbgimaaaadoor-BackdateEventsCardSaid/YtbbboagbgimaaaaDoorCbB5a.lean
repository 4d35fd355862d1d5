/- A chain of comparisons, piece by piece. -/
import Derived.Test.YtbbboagbgimaaaaDoorCbB4
namespace Go.Sim
set_option maxRecDepth 10000
theorem evalOps_append (E : Env) : ∀ (a b : List IOper) (id : Nat) (s : St), evalOps E (a ++ b) id s = match evalOps E a id s with | some s' => evalOps E b (id + nadds a) s' | none => none
  | [], b, id, s => by simp [evalOps, nadds]
  | o :: a, b, id, s => by
    have ih := evalOps_append E a b
    have e : ∀ (c : Bool) , (if c then id + 1 else id) + nadds a = id + ((if c then 1 else 0) + nadds a) := by intro c; cases c <;> simp <;> omega
    simp only [List.cons_append, evalOps, ih, nadds]
    split
    · split
      · rw [e]
      · rfl
    · rename_i hg
      split
      · rename_i hb
        split
        · split
          · rw [e]
          · rfl
        · rw [e]
      · rw [e]
      · rfl
def ck (a g o : Nat) : List IOper := [OG a g true (.faddr o (.t 2)), OG (a + 1) g true (.load K0 (.t a)), OG (a + 2) g true (.faddr o (.t 3)), OG (a + 3) g true (.load K0 (.t (a + 2))), OG (a + 4) g true (.bin .eql (.t (a + 1)) (.t (a + 3))), O (a + 5) (.pick (.t g) (.t (a + 4)) (.c (.b false))), O (a + 6) (.mov (.t (a + 5)))]
/-- One more comparison of two fields, where all before it held. -/
theorem chunk (E : Env) (H : Heap) (g a o : Nat) (p q x y : PV) (r1 r2 : PV) (hg : g < a) (h2 : 3 < g) (fr : Fr) (hfg : fr.get g = .d (.b true)) (hf2 : fr.get 2 = p) (hf3 : fr.get 3 = q) (hp : moveA o p = some x) (hq : moveA o q = some y) (hx : loadA H K0 x = some r1) (hy : loadA H K0 y = some r2) (he : binA .eql r1 r2 = some (.b true)) (id : Nat) :
    ∃ fr', evalOps E (ck a g o) id ⟨fr, H⟩ = some ⟨fr', H⟩ ∧ fr'.get (a + 6) = .d (.b true) ∧ fr'.get 2 = p ∧ fr'.get 3 = q := by
  have n1 : ∀ k, 2 ≠ a + k := fun k => by omega
  have n2 : ∀ k, 3 ≠ a + k := fun k => by omega
  have n3 : ∀ k, g ≠ a + k := fun k => by omega
  have n4 : 2 ≠ a := by omega
  have n5 : 3 ≠ a := by omega
  have n6 : g ≠ a := by omega
  have n7 : a ≠ 0 := by omega
  simp [ck, evalOps, evalOp, getE_set, hfg, hf2, hf3, hp, hq, hx, hy, he, n1, n2, n3, n4, n5, n6, n7, opt, optD, rd, -moveA, -loadA, -binA]
def c9a : List IOper := [O 5 (.faddr 0 (.t 2)), O 6 (.load K0 (.t 5)), O 7 (.faddr 0 (.t 3)), O 8 (.load K0 (.t 7)), O 9 (.bin .eql (.t 6) (.t 8)), O 10 (.mov (.t 9))]
def c9z : List IOper := [OG 67 66 true (.faddr 8 (.t 2)), OG 68 66 true (.load K0 (.t 67)), OG 69 66 true (.faddr 8 (.t 3)), OG 70 66 true (.load K0 (.t 69)), OG 71 66 true (.call 0 14 [(.t 68), (.t 70)]), O 72 (.pick (.t 66) (.t 71) (.c (.b false))), O 4 (.mov (.t 72))]
def R9 : List IOper := match F9.body with | .seq _ (.seq (.reg r _) _) => r | _ => []
theorem R9_eq : R9 = c9a ++ (ck 11 10 1 ++ (ck 18 17 2 ++ (ck 25 24 3 ++ (ck 32 31 4 ++ (ck 39 38 5 ++ (ck 46 45 6 ++ (ck 53 52 7 ++ (ck 60 59 9 ++ c9z)))))))) := rfl
theorem key9 (e : Entry) (t t' : Bool) (fr : Fr) (h2 : fr.get 2 = .p 0 0 0) (h3 : fr.get 3 = .p 1 0 0) (id : Nat) (hv : ∀ t t', T1.val 14 [.l (K1 3) (e.Legs.map Leg.dv) t, .l (K1 3) (e.Legs.map Leg.dv) t'] = some (.d (.b true), false)) :
    ∃ fr', evalOps T1.env R9 id ⟨fr, [some (.box (K1 10) (.d (e.dv t))), some (.box (K1 10) (.d (e.dv t')))]⟩ = some ⟨fr', [some (.box (K1 10) (.d (e.dv t))), some (.box (K1 10) (.d (e.dv t')))]⟩ ∧ fr'.get 4 = .d (.b true) := by
  generalize hH : ([some (.box (K1 10) (.d (e.dv t))), some (.box (K1 10) (.d (e.dv t')))] : Heap) = H
  obtain ⟨f0, q0, a0, b0, c0⟩ : ∃ f0, evalOps T1.env c9a id ⟨fr, H⟩ = some ⟨f0, H⟩ ∧ f0.get 10 = .d (.b true) ∧ f0.get 2 = .p 0 0 0 ∧ f0.get 3 = .p 1 0 0 := by
    subst hH
    simp [c9a, getE_set, h2, h3, Entry.dv]
  obtain ⟨f1, q1, a1, b1, c1⟩ := chunk T1.env H 10 11 1 _ _ (.p 0 0 1) (.p 1 0 1) _ _ (by omega) (by omega) f0 a0 b0 c0 (by simp) (by simp) (by subst hH; simp [Entry.dv]; rfl) (by subst hH; simp [Entry.dv]; rfl) (by simp [binS]) id
  obtain ⟨f2, q2, a2, b2, c2⟩ := chunk T1.env H 17 18 2 _ _ (.p 0 0 2) (.p 1 0 2) _ _ (by omega) (by omega) f1 a1 b1 c1 (by simp) (by simp) (by subst hH; simp [Entry.dv]; rfl) (by subst hH; simp [Entry.dv]; rfl) (by simp [binS]) id
  obtain ⟨f3, q3, a3, b3, c3⟩ := chunk T1.env H 24 25 3 _ _ (.p 0 0 3) (.p 1 0 3) _ _ (by omega) (by omega) f2 a2 b2 c2 (by simp) (by simp) (by subst hH; simp [Entry.dv]; rfl) (by subst hH; simp [Entry.dv]; rfl) (by simp [binS]) id
  obtain ⟨f4, q4, a4, b4, c4⟩ := chunk T1.env H 31 32 4 _ _ (.p 0 0 4) (.p 1 0 4) _ _ (by omega) (by omega) f3 a3 b3 c3 (by simp) (by simp) (by subst hH; simp [Entry.dv]; rfl) (by subst hH; simp [Entry.dv]; rfl) (by simp [binS]) id
  obtain ⟨f5, q5, a5, b5, c5⟩ := chunk T1.env H 38 39 5 _ _ (.p 0 0 5) (.p 1 0 5) _ _ (by omega) (by omega) f4 a4 b4 c4 (by simp) (by simp) (by subst hH; simp [Entry.dv]; rfl) (by subst hH; simp [Entry.dv]; rfl) (by simp [binS]) id
  obtain ⟨f6, q6, a6, b6, c6⟩ := chunk T1.env H 45 46 6 _ _ (.p 0 0 6) (.p 1 0 6) _ _ (by omega) (by omega) f5 a5 b5 c5 (by simp) (by simp) (by subst hH; simp [Entry.dv]; rfl) (by subst hH; simp [Entry.dv]; rfl) (by simp [binS]) id
  obtain ⟨f7, q7, a7, b7, c7⟩ := chunk T1.env H 52 53 7 _ _ (.p 0 0 7) (.p 1 0 7) _ _ (by omega) (by omega) f6 a6 b6 c6 (by simp) (by simp) (by subst hH; simp [Entry.dv]; rfl) (by subst hH; simp [Entry.dv]; rfl) (by simp [binS]) id
  obtain ⟨f8, q8, a8, b8, c8⟩ := chunk T1.env H 59 60 9 _ _ (.p 0 0 9) (.p 1 0 9) _ _ (by omega) (by omega) f7 a7 b7 c7 (by simp) (by simp) (by subst hH; simp [Entry.dv]; rfl) (by subst hH; simp [Entry.dv]; rfl) (by simp [binS]) id
  obtain ⟨f9, q9, a9⟩ : ∃ f9, evalOps T1.env c9z id ⟨f8, H⟩ = some ⟨f9, H⟩ ∧ f9.get 4 = .d (.b true) := by
    subst hH
    simp [c9z, getE_set, a8, b8, c8, Entry.dv, env_val, hv]
  have hn : ∀ a g o, nadds (ck a g o) = 0 := fun _ _ _ => rfl
  have hn0 : nadds c9a = 0 := rfl
  refine ⟨f9, ?_, a9⟩
  rw [R9_eq, evalOps_append, q0]
  simp only [hn0, hn, Nat.add_zero, evalOps_append, q1, q2, q3, q4, q5, q6, q7, q8, q9]
theorem val9 (e : Entry) (t t' : Bool) (hv : ∀ t t', T1.val 14 [.l (K1 3) (e.Legs.map Leg.dv) t, .l (K1 3) (e.Legs.map Leg.dv) t'] = some (.d (.b true), false)) : T1.val 9 [e.dv t, e.dv t'] = some (.d (.b true), false) := by
  rw [val_eq T1 (F := F9) rfl]
  obtain ⟨fr', h1, h2⟩ := key9 e t t' [(2, .p 0 0 0), (3, .p 1 0 0)] rfl rfl 2 hv
  have hF : ∃ k1 k2, F9 = ⟨2, [.t 4], sq (.reg [O 2 (.box (K1 10) (.t 0)), O 3 (.box (K1 10) (.t 1)), O 4 (.mov (.c (.b false)))] k1) (sq (.reg R9 k2) .ret)⟩ ∧ k1 = [4, 1, 0] ∧ k2.contains 4 = false := ⟨_, _, rfl, rfl, by decide⟩
  obtain ⟨k1, k2, hF, rfl, hk⟩ := hF
  rw [hF]
  have hl : nadds R9 = 0 := rfl
  have hfit : ∀ t, fits (K1 10) (.d (e.dv t)) = true := fun t => by simp [Entry.dv]
  have hk' : 4 ∉ k2 := by simpa using hk
  simp [-fits, hfit, hl, h1, h2, getE_drop, hk']
end Go.Sim
