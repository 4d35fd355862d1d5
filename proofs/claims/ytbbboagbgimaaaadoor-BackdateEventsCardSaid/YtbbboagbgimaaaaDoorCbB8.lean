/- The law answers true. -/
import Derived.Test.YtbbboagbgimaaaaDoorCbB7
namespace Go.Sim
set_option maxRecDepth 10000
theorem val1 (js : List (Entry × Bool)) (t t' : Bool) (ls : List Period) (x0 x1 : Int) : T1.val 1 [.l (K1 10) (js.map edv) t, .l (K1 11) (ls.map Period.dv) t', .a [I x0, I x1]] = some (.d (.b true), false) := by
  rw [val_eq T1 (F := F1) rfl]
  by_cases h1 : (100 : Int) < js.length
  · simp [F1, h1, env_val, val2]
  · by_cases h2 : (100 : Int) < ls.length
    · simp [F1, h1, h2, env_val, val2]
    · have hn : js.length ≤ 1000 := by omega
      have hn2 : ls.length ≤ 1000 := by omega
      have key := loop1a js t (.l (K1 11) (ls.map Period.dv) t') (.a [I x0, I x1]) hn js.length 0 ⟨[(0, .d (.l (K1 10) (js.map edv) t)), (1, .d (.l (K1 11) (ls.map Period.dv) t')), (5, .p 0 0 0), (7, .d (I 0)), (18, .d (.b false))], [some (.box (K1 2) (.d (.a [I x0, I x1])))]⟩ (by omega) (by simp [st1a])
      rcases key with ⟨s', k1, k2⟩ | ⟨hl, s', k1, rfl⟩
      · simp [F1, h1, h2, k1, k2]
      · have v3 := val3 ls false x0 x1 hn2
        have v4 := val4 ls false x0 x1 hn2
        obtain ⟨zs, hz, hzl⟩ := aff_ints x0 x1 ls 0
        rw [hz] at v3 v4
        obtain ⟨s2, m1, m2, m3⟩ := loop1b T1.env (.l (K1 10) (js.map edv) t) zs (by omega) zs.length 0 ⟨[(0, .d (.l (K1 10) (js.map edv) t)), (7, .d (I js.length)), (8, .d (.l K0 (zs.map I) false)), (9, .d (.l K0 (zs.map I) false)), (10, .d (I 0)), (23, .d (.b false)), (50, .d (.b false))], [some (.box (K1 2) (.d (.a [I x0, I x1])))]⟩ (by omega) (by simp [st1b])
        have hl' : ∀ y ∈ js, y.1.Legs.length ≤ 1000 := fun y hy => by have := hl y (by simpa using hy); omega
        have v6 := fun t => val6 js t hn hl'
        have v7 := fun t => val7 js t hn
        have v5 := val5 (js.filter fun x => ev x.1) (fun _ => false) (fun x => x.2) false false (Nat.le_trans (List.length_filter_le _ _) hn) (fun y hy => hl' y ((List.mem_filter.1 hy).1))
        have e5 : (js.filter fun x => ev x.1).map (fun x => x.1.dv x.2) = (js.filter fun x => ev x.1).map edv := rfl
        rw [e5] at v5
        simp only [evs_map] at v6 v7
        simp [F1, h1, h2, k1, env_val, v3, v4, m1, m2, m3, v6, v7, v5, val2, getE_set, getE_drop]
end Go.Sim
