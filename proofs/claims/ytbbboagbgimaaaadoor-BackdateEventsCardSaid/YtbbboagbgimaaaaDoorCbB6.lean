/- Lives, and the law. -/
import Derived.Test.YtbbboagbgimaaaaDoorCbB2
import Derived.Test.YtbbboagbgimaaaaDoorCbB5
import Derived.KernelRfl
namespace Go.Sim
set_option maxRecDepth 100000
theorem val2 : T1.val 2 [] = some (.d (.b true), false) := (val_some T1 2 [] _).2 ⟨60, by kernel_rfl⟩
def st1a (js : List (Entry × Bool)) (t : Bool) (l x : DV) (i : Nat) : St := ⟨[(0, .d (.l (K1 10) (js.map edv) t)), (1, .d l), (5, .p 0 0 0), (7, .d (I i))], [some (.box (K1 2) (.d x))]⟩
theorem round1a (js : List (Entry × Bool)) (t : Bool) (l x : DV) (i : Nat) (hi : i < js.length) (hn : js.length ≤ 1000) (hl : js[i].1.Legs.length ≤ 20) :
    ∃ s', evalC T1.env lpI 0 L1_0 (st1a js t l x i) = some (.norm, s') ∧ gc [0, 1, 5, 7] 0 s' = st1a js t l x (i + 1) := by
  have h1 : (i : Int) < js.length := by omega
  have h2 : 0 ≤ (i : Int) := by omega
  have h3 : IntKind.i64.wrap ((i : Int) + 1) = (i : Int) + 1 := wrI (by omega) (by omega)
  have h4 : ¬ (20 : Int) < js[i].1.Legs.length := by omega
  simp [L1_0, st1a, hi, h1, h2, Entry.dv, edv, h3, h4]
theorem great1a (js : List (Entry × Bool)) (t : Bool) (l x : DV) (i : Nat) (hi : i < js.length) (hl : ¬ js[i].1.Legs.length ≤ 20) :
    ∃ s', evalC T1.env lpI 0 L1_0 (st1a js t l x i) = some (.ret, s') ∧ s'.fr.get 6 = .d (.b true) := by
  have h1 : (i : Int) < js.length := by omega
  have h2 : 0 ≤ (i : Int) := by omega
  have h4 : (20 : Int) < js[i].1.Legs.length := by omega
  simp [L1_0, st1a, hi, h1, h2, Entry.dv, edv, h4, env_val, val2]
theorem loop1a (js : List (Entry × Bool)) (t : Bool) (l x : DV) (hn : js.length ≤ 1000) : ∀ (n i : Nat) (s : St), i + n = js.length → gc [0, 1, 5, 7] 0 s = st1a js t l x i →
    (∃ s', evalC T1.env lpI 0 (.loop [0, 1, 5, 7] L1_0) s = some (.ret, s') ∧ s'.fr.get 6 = .d (.b true)) ∨
    ((∀ y ∈ js.drop i, y.1.Legs.length ≤ 20) ∧ ∃ s', evalC T1.env lpI 0 (.loop [0, 1, 5, 7] L1_0) s = some (.exit 0, s') ∧ s' = ⟨[(0, .d (.l (K1 10) (js.map edv) t)), (1, .d l), (5, .p 0 0 0), (7, .d (I js.length)), (23, .d (.b false))], [some (.box (K1 2) (.d x))]⟩)
  | 0, i, s, hi, hs => by
    have hd : js.drop i = [] := by rw [List.drop_eq_nil_iff]; omega
    have h1 : ¬ (i : Int) < js.length := by omega
    refine .inr ⟨by rw [hd]; simp, lp_end (by simp) ?_⟩
    rw [hs]
    have hi' : i = js.length := by omega
    subst hi'
    simp [L1_0, st1a]
  | n + 1, i, s, hi, hs => by
    have hil : i < js.length := by omega
    have hd : js.drop i = js[i] :: js.drop (i + 1) := List.drop_eq_getElem_cons hil
    by_cases hl : js[i].1.Legs.length ≤ 20
    · obtain ⟨s1, h1, h2⟩ := round1a js t l x i hil hn hl
      rcases loop1a js t l x hn n (i + 1) s1 (by omega) h2 with h | ⟨h, h'⟩
      · exact .inl (lp_step (by rw [hs]; exact h1) h)
      · refine .inr ⟨?_, lp_step (by rw [hs]; exact h1) h'⟩
        rw [hd]; intro y hy
        rcases List.mem_cons.1 hy with rfl | hy
        · exact hl
        · exact h y hy
    · refine .inl (lp_end (by simp) ?_)
      rw [hs]
      exact great1a js t l x i hil hl
end Go.Sim
