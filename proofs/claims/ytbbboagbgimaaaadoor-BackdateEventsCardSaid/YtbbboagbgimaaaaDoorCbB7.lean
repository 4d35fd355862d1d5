/- The law. -/
import Derived.Test.YtbbboagbgimaaaaDoorCbB6
namespace Go.Sim
set_option maxRecDepth 10000
theorem aff_ints (id v : Int) : ∀ (ls : List Period) (i : Nat), ∃ zs : List Int, aff id v ls i = zs.map I ∧ zs.length ≤ ls.length
  | [], i => ⟨[], rfl, Nat.le_refl _⟩
  | p :: r, i => by
    obtain ⟨zs, h1, h2⟩ := aff_ints id v r (i + 1)
    simp only [aff]
    split
    · exact ⟨i :: zs, by simp [h1], by simp; omega⟩
    · exact ⟨zs, h1, by simp; omega⟩
def st1b (j : DV) (zs : List Int) (i : Nat) : St := ⟨[(0, .d j), (8, .d (.l K0 (zs.map I) false)), (9, .d (.l K0 (zs.map I) false)), (10, .d (I i))], []⟩
theorem round1b (E : Env) (j : DV) (zs : List Int) (i : Nat) (hi : i < zs.length) (hn : zs.length ≤ 1000) :
    ∃ s', evalC E lpI 0 L1_1 (st1b j zs i) = some (.norm, s') ∧ gc [0, 8, 9, 10] 0 s' = st1b j zs (i + 1) := by
  have h1 : (i : Int) < zs.length := by omega
  have h2 : 0 ≤ (i : Int) := by omega
  have h3 : IntKind.i64.wrap ((i : Int) + 1) = (i : Int) + 1 := wrI (by omega) (by omega)
  simp [L1_1, st1b, hi, h1, h2, h3]
theorem loop1b (E : Env) (j : DV) (zs : List Int) (hn : zs.length ≤ 1000) : ∀ (n i : Nat) (s : St), i + n = zs.length → gc [0, 8, 9, 10] 0 s = st1b j zs i →
    ∃ s', evalC E lpI 0 (.loop [0, 8, 9, 10] L1_1) s = some (.exit 2, s') ∧ (s'.fr.get 0 = .d j ∧ s'.H = [])
  | 0, i, s, hi, hs => by
    have h1 : ¬ (i : Int) < zs.length := by omega
    refine lp_end (by simp) ?_
    rw [hs]
    simp [L1_1, st1b, h1]
  | n + 1, i, s, hi, hs => by
    obtain ⟨s1, h1, h2⟩ := round1b E j zs i (by omega) hn
    exact lp_step (by rw [hs]; exact h1) (loop1b E j zs hn n (i + 1) s1 (by omega) h2)
end Go.Sim
