/- The same entries. -/
import Derived.Test.YtbbboagbgimaaaaDoorCbB5a
namespace Go.Sim
set_option maxRecDepth 10000
attribute [simp] evalOpD eqA eqL eqK unA
def st14 (ls : List Leg) (t t' : Bool) (i : Nat) : St := ⟨[(0, .d (.l (K1 3) (ls.map Leg.dv) t)), (1, .d (.l (K1 3) (ls.map Leg.dv) t')), (5, .d (I i))], []⟩
theorem round14 (E : Env) (ls : List Leg) (t t' : Bool) (i : Nat) (hi : i < ls.length) (hn : ls.length ≤ 1000) :
    ∃ s', evalC E lpI 0 L14_0 (st14 ls t t' i) = some (.norm, s') ∧ gc [0, 1, 5] 0 s' = st14 ls t t' (i + 1) := by
  have h1 : (i : Int) < ls.length := by omega
  have h2 : 0 ≤ (i : Int) := by omega
  have h3 : IntKind.i64.wrap ((i : Int) + 1) = (i : Int) + 1 := wrI (by omega) (by omega)
  simp [L14_0, st14, hi, h1, h2, Leg.dv, h3]
theorem loop14 (E : Env) (ls : List Leg) (t t' : Bool) (hn : ls.length ≤ 1000) : ∀ (n i : Nat) (s : St), i + n = ls.length → gc [0, 1, 5] 0 s = st14 ls t t' i →
    ∃ s', evalC E lpI 0 (.loop [0, 1, 5] L14_0) s = some (.exit 0, s') ∧ s'.H = []
  | 0, i, s, hi, hs => by
    have h1 : ¬ (i : Int) < ls.length := by omega
    refine lp_end (by simp) ?_
    rw [hs]
    simp [L14_0, st14, h1]
  | n + 1, i, s, hi, hs => by
    obtain ⟨s1, h1, h2⟩ := round14 E ls t t' i (by omega) hn
    exact lp_step (by rw [hs]; exact h1) (loop14 E ls t t' hn n (i + 1) s1 (by omega) h2)
theorem val14 (ls : List Leg) (t t' : Bool) (hn : ls.length ≤ 1000) : T1.val 14 [.l (K1 3) (ls.map Leg.dv) t, .l (K1 3) (ls.map Leg.dv) t'] = some (.d (.b true), false) := by
  rw [val_eq T1 (F := F14) rfl]
  obtain ⟨s', h1, h2⟩ := loop14 T1.env ls t t' hn ls.length 0 ⟨[(0, .d (.l (K1 3) (ls.map Leg.dv) t)), (1, .d (.l (K1 3) (ls.map Leg.dv) t')), (5, .d (I 0)), (10, .d (.b false))], []⟩ (by omega) (by simp [st14])
  simp [F14, h1, getE_set, getE_drop, h2]
theorem same9 (e : Entry) (t t' : Bool) (h : e.Legs.length ≤ 1000) : T1.val 9 [e.dv t, e.dv t'] = some (.d (.b true), false) := val9 e t t' fun t t' => val14 e.Legs t t' h
def st5 (js : List (Entry × Bool)) (f g : Entry × Bool → Bool) (t t' : Bool) (i : Nat) : St := ⟨[(0, .d (.l (K1 10) (js.map fun x => x.1.dv (f x)) t)), (1, .d (.l (K1 10) (js.map fun x => x.1.dv (g x)) t')), (5, .d (I i))], []⟩
theorem round5 (js : List (Entry × Bool)) (f g : Entry × Bool → Bool) (t t' : Bool) (i : Nat) (hi : i < js.length) (hn : js.length ≤ 1000) (hl : js[i].1.Legs.length ≤ 1000) :
    ∃ s', evalC T1.env lpI 0 L5_0 (st5 js f g t t' i) = some (.norm, s') ∧ gc [0, 1, 5] 0 s' = st5 js f g t t' (i + 1) := by
  have h1 : (i : Int) < js.length := by omega
  have h2 : 0 ≤ (i : Int) := by omega
  have h3 : IntKind.i64.wrap ((i : Int) + 1) = (i : Int) + 1 := wrI (by omega) (by omega)
  have hv := same9 js[i].1 (f js[i]) (g js[i]) hl
  simp only [Entry.dv] at hv
  simp [L5_0, st5, hi, h1, h2, Entry.dv, h3, env_val, hv]
theorem loop5 (js : List (Entry × Bool)) (f g : Entry × Bool → Bool) (t t' : Bool) (hn : js.length ≤ 1000) (hl : ∀ x ∈ js, x.1.Legs.length ≤ 1000) : ∀ (n i : Nat) (s : St), i + n = js.length → gc [0, 1, 5] 0 s = st5 js f g t t' i →
    ∃ s', evalC T1.env lpI 0 (.loop [0, 1, 5] L5_0) s = some (.exit 0, s') ∧ s'.H = []
  | 0, i, s, hi, hs => by
    have h1 : ¬ (i : Int) < js.length := by omega
    refine lp_end (by simp) ?_
    rw [hs]
    simp [L5_0, st5, h1]
  | n + 1, i, s, hi, hs => by
    obtain ⟨s1, h1, h2⟩ := round5 js f g t t' i (by omega) hn (hl _ (List.getElem_mem _))
    exact lp_step (by rw [hs]; exact h1) (loop5 js f g t t' hn hl n (i + 1) s1 (by omega) h2)
theorem val5 (js : List (Entry × Bool)) (f g : Entry × Bool → Bool) (t t' : Bool) (hn : js.length ≤ 1000) (hl : ∀ x ∈ js, x.1.Legs.length ≤ 1000) : T1.val 5 [.l (K1 10) (js.map fun x => x.1.dv (f x)) t, .l (K1 10) (js.map fun x => x.1.dv (g x)) t'] = some (.d (.b true), false) := by
  rw [val_eq T1 (F := F5) rfl]
  obtain ⟨s', h1, h2⟩ := loop5 js f g t t' hn hl js.length 0 ⟨[(0, .d (.l (K1 10) (js.map fun x => x.1.dv (f x)) t)), (1, .d (.l (K1 10) (js.map fun x => x.1.dv (g x)) t')), (5, .d (I 0)), (10, .d (.b false))], []⟩ (by omega) (by simp [st5])
  simp [F5, h1, getE_set, getE_drop, h2]
theorem evs_map (f : Entry × Bool → DV) (js : List (Entry × Bool)) : evs f js = (js.filter fun x => ev x.1).map f := by
  induction js with
  | nil => rfl
  | cons x r ih => simp only [evs, List.filter_cons]; split <;> simp [ih]
end Go.Sim
