/- Events, both. -/
import Derived.Test.YtbbboagbgimaaaaDoorCbB3
namespace Go.Sim
set_option maxRecDepth 10000
/-- The events among entries, each marked by f. -/
def evs (f : Entry × Bool → DV) : List (Entry × Bool) → List DV
  | [] => []
  | x :: r => if ev x.1 then f x :: evs f r else evs f r
theorem loop6 (js : List (Entry × Bool)) (t : Bool) (hn : js.length ≤ 1000) (hl : ∀ x ∈ js, x.1.Legs.length ≤ 1000) : ∀ (n i : Nat) (out : List DV) (s : St), i + n = js.length → out.length ≤ i → gc [3, 6, 7, 8] 0 s = st6 js t out i →
    ∃ s', evalC T1.env lpI 0 (.loop [3, 6, 7, 8] L6_0) s = some (.exit 0, s') ∧ (s'.fr.get 3 = eP (out ++ evs (fun x => x.1.dv false) (js.drop i)) ∧ s'.H = eH (out ++ evs (fun x => x.1.dv false) (js.drop i)))
  | 0, i, out, s, hi, ho, hs => by
    have hd : js.drop i = [] := by rw [List.drop_eq_nil_iff]; omega
    have h1 : ¬ (i : Int) < js.length := by omega
    refine lp_end (by simp) ?_
    rw [hd, hs]
    simp [L6_0, st6, h1, evs]
  | n + 1, i, out, s, hi, ho, hs => by
    have hil : i < js.length := by omega
    obtain ⟨s1, h1, h2⟩ := round6 js t out i hil hn ho (hl _ (List.getElem_mem hil))
    have hd : js.drop i = js[i] :: js.drop (i + 1) := List.drop_eq_getElem_cons hil
    refine lp_step (by rw [hs]; exact h1) ?_
    have h3 := loop6 js t hn hl n (i + 1) _ s1 (by omega) (by split <;> (try simp) <;> omega) h2
    have e : (if ev js[i].1 then out ++ [js[i].1.dv false] else out) ++ evs (fun x => x.1.dv false) (js.drop (i + 1)) = out ++ evs (fun x => x.1.dv false) (js.drop i) := by
      rw [hd]; simp only [evs]; split <;> simp
    rw [e] at h3
    exact h3
theorem val6 (js : List (Entry × Bool)) (t : Bool) (hn : js.length ≤ 1000) (hl : ∀ x ∈ js, x.1.Legs.length ≤ 1000) : T1.val 6 [.l (K1 10) (js.map edv) t] = some (.d (.l (K1 10) (evs (fun x => x.1.dv false) js) false), true) := by
  rw [val_eq T1 (F := F6) rfl]
  obtain ⟨s', h1, h2, h3⟩ := loop6 js t hn hl js.length 0 [] ⟨[(3, .d (.l (K1 10) [] true)), (6, .d (.l (K1 10) (js.map edv) t)), (7, .d (I js.length)), (8, .d (I 0))], []⟩ (by omega) (by simp) (by simp [st6, eP, eH])
  simp only [List.nil_append, List.drop_zero] at h2 h3
  have h4 := purT_outE (evs (fun x => x.1.dv false) js)
  rw [← h2, ← h3] at h4
  simpa [F6, h1, getE_set, getE_drop] using h4
def st7 (js : List (Entry × Bool)) (t : Bool) (out : List DV) (i : Nat) : St := ⟨[(0, .d (.l (K1 10) (js.map edv) t)), (3, eP out), (4, .d (I i))], eH out⟩
theorem round7 (js : List (Entry × Bool)) (t : Bool) (out : List DV) (i : Nat) (hi : i < js.length) (hn : js.length ≤ 1000) (ho : out.length ≤ i) :
    ∃ s', evalC T1.env lpI 0 L7_0 (st7 js t out i) = some (.norm, s') ∧ gc [0, 3, 4] 0 s' = st7 js t (if ev js[i].1 then out ++ [js[i].1.dv js[i].2] else out) (i + 1) := by
  have h1 : (i : Int) < js.length := by omega
  have h2 : 0 ≤ (i : Int) := by omega
  have h3 : IntKind.i64.wrap ((i : Int) + 1) = (i : Int) + 1 := wrI (by omega) (by omega)
  obtain ⟨own, hv⟩ := val11 js[i].1 js[i].2
  simp only [Entry.dv] at hv
  by_cases hc : ev js[i].1
  · have hc' := hc
    simp only [ev] at hc'
    rw [hc'] at hv
    cases out with
    | nil => simp [L7_0, st7, eP, eH, hi, h1, h2, Entry.dv, edv, hc, h3, env_val, hv]
    | cons x xs =>
      have hb : (xs.length + 1 + 1) * 112 ≤ 140737488355328 := by simp at ho; omega
      simp [L7_0, st7, eP, eH, hi, h1, h2, Entry.dv, edv, hc, h3, env_val, hv, hb]
  · have hc' : ev js[i].1 = false := by simpa using hc
    have hc2 := hc'
    simp only [ev] at hc2
    rw [hc2] at hv
    cases out with
    | nil => simp [L7_0, st7, eP, eH, hi, h1, h2, Entry.dv, edv, hc', h3, env_val, hv]
    | cons x xs => simp [L7_0, st7, eP, eH, hi, h1, h2, Entry.dv, edv, hc', h3, env_val, hv]
theorem loop7 (js : List (Entry × Bool)) (t : Bool) (hn : js.length ≤ 1000) : ∀ (n i : Nat) (out : List DV) (s : St), i + n = js.length → out.length ≤ i → gc [0, 3, 4] 0 s = st7 js t out i →
    ∃ s', evalC T1.env lpI 0 (.loop [0, 3, 4] L7_0) s = some (.exit 0, s') ∧ (s'.fr.get 3 = eP (out ++ evs edv (js.drop i)) ∧ s'.H = eH (out ++ evs edv (js.drop i)))
  | 0, i, out, s, hi, ho, hs => by
    have hd : js.drop i = [] := by rw [List.drop_eq_nil_iff]; omega
    have h1 : ¬ (i : Int) < js.length := by omega
    refine lp_end (by simp) ?_
    rw [hd, hs]
    simp [L7_0, st7, h1, evs]
  | n + 1, i, out, s, hi, ho, hs => by
    have hil : i < js.length := by omega
    obtain ⟨s1, h1, h2⟩ := round7 js t out i hil hn ho
    have hd : js.drop i = js[i] :: js.drop (i + 1) := List.drop_eq_getElem_cons hil
    refine lp_step (by rw [hs]; exact h1) ?_
    have h3 := loop7 js t hn n (i + 1) _ s1 (by omega) (by split <;> (try simp) <;> omega) h2
    have e : (if ev js[i].1 then out ++ [js[i].1.dv js[i].2] else out) ++ evs edv (js.drop (i + 1)) = out ++ evs edv (js.drop i) := by
      rw [hd]; simp only [evs, edv]; split <;> simp
    rw [e] at h3
    exact h3
theorem val7 (js : List (Entry × Bool)) (t : Bool) (hn : js.length ≤ 1000) : T1.val 7 [.l (K1 10) (js.map edv) t] = some (.d (.l (K1 10) (evs edv js) false), true) := by
  rw [val_eq T1 (F := F7) rfl]
  obtain ⟨s', h1, h2, h3⟩ := loop7 js t hn js.length 0 [] ⟨[(0, .d (.l (K1 10) (js.map edv) t)), (3, .d (.l (K1 10) [] true)), (4, .d (I 0))], []⟩ (by omega) (by simp) (by simp [st7, eP, eH])
  simp only [List.nil_append, List.drop_zero] at h2 h3
  have h4 := purT_outE (evs edv js)
  rw [← h2, ← h3] at h4
  simpa [F7, h1, getE_set, getE_drop] using h4
end Go.Sim
