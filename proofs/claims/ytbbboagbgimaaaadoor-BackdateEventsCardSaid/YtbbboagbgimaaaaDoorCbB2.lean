/- The reference's list of affected periods. -/
import Derived.Test.YtbbboagbgimaaaaDoorCbB1
namespace Go.Sim
set_option maxRecDepth 10000
def st4 (ls : List Period) (t : Bool) (id v : Int) (out : List DV) (i : Nat) : St := ⟨[(0, .d (.l (K1 11) (ls.map Period.dv) t)), (1, .d (I id)), (2, .d (I v)), (7, outP out), (8, .d (I i))], outH out⟩
theorem round4 (E : Env) (ls : List Period) (t : Bool) (id v : Int) (out : List DV) (i : Nat) (hi : i < ls.length) (hn : ls.length ≤ 1000) (ho : out.length ≤ i) :
    ∃ s', evalC E lpI 0 L4_0 (st4 ls t id v out i) = some (.norm, s') ∧ gc [0, 1, 2, 7, 8] 0 s' = st4 ls t id v (if ls[i].Account = id ∧ ls[i].To ≥ v then out ++ [I i] else out) (i + 1) := by
  have h1 : (i : Int) < ls.length := by omega
  have h2 : 0 ≤ (i : Int) := by omega
  have h3 : IntKind.i64.wrap ((i : Int) + 1) = (i : Int) + 1 := wrI (by omega) (by omega)
  by_cases hc : ls[i].Account = id
  · by_cases hv : ls[i].To ≥ v
    · cases out with
      | nil => simp [L4_0, st4, outP, outH, hi, h1, h2, Period.dv, hc, hv, h3]
      | cons x xs =>
        have hb : (xs.length + 1 + 1) * 8 ≤ 140737488355328 := by simp at ho; omega
        simp [L4_0, st4, outP, outH, hi, h1, h2, Period.dv, hc, hv, h3, hb]
    · cases out with
      | nil => simp [L4_0, st4, outP, outH, hi, h1, h2, Period.dv, hc, hv, h3]
      | cons x xs => simp [L4_0, st4, outP, outH, hi, h1, h2, Period.dv, hc, hv, h3]
  · have hc' : (ls[i].Account == id) = false := by simpa using hc
    cases out with
    | nil => simp [L4_0, st4, outP, outH, hi, h1, h2, Period.dv, hc, hc', h3]
    | cons x xs => simp [L4_0, st4, outP, outH, hi, h1, h2, Period.dv, hc, hc', h3]
theorem loop4 (E : Env) (ls : List Period) (t : Bool) (id v : Int) (hn : ls.length ≤ 1000) : ∀ (n i : Nat) (out : List DV) (s : St), i + n = ls.length → out.length ≤ i → gc [0, 1, 2, 7, 8] 0 s = st4 ls t id v out i →
    ∃ s', evalC E lpI 0 (.loop [0, 1, 2, 7, 8] L4_0) s = some (.exit 0, s') ∧ (s'.fr.get 7 = outP (out ++ aff id v (ls.drop i) i) ∧ s'.H = outH (out ++ aff id v (ls.drop i) i))
  | 0, i, out, s, hi, ho, hs => by
    have hd : ls.drop i = [] := by rw [List.drop_eq_nil_iff]; omega
    have h1 : ¬ (i : Int) < ls.length := by omega
    refine lp_end (by simp) ?_
    rw [hd, hs]
    simp [L4_0, st4, h1, aff]
  | n + 1, i, out, s, hi, ho, hs => by
    have hil : i < ls.length := by omega
    obtain ⟨s1, h1, h2⟩ := round4 E ls t id v out i hil hn ho
    have hd : ls.drop i = ls[i] :: ls.drop (i + 1) := List.drop_eq_getElem_cons hil
    refine lp_step (by rw [hs]; exact h1) ?_
    have h3 := loop4 E ls t id v hn n (i + 1) _ s1 (by omega) (by split <;> (try simp) <;> omega) h2
    have e : (if ls[i].Account = id ∧ ls[i].To ≥ v then out ++ [I i] else out) ++ aff id v (ls.drop (i + 1)) (i + 1) = out ++ aff id v (ls.drop i) i := by
      rw [hd]; simp only [aff]; split <;> simp
    rw [e] at h3
    exact h3
theorem val4 (ls : List Period) (t : Bool) (id v : Int) (hn : ls.length ≤ 1000) : T1.val 4 [.l (K1 11) (ls.map Period.dv) t, I id, I v] = some (.d (.l K0 (aff id v ls 0) false), true) := by
  rw [val_eq T1 (F := F4) rfl]
  obtain ⟨s', h1, h2, h3⟩ := loop4 T1.env ls t id v hn ls.length 0 [] ⟨[(0, .d (.l (K1 11) (ls.map Period.dv) t)), (1, .d (I id)), (2, .d (I v)), (7, .d (.l K0 [] true)), (8, .d (I 0))], []⟩ (by omega) (by simp) (by simp [st4, outP, outH])
  simp only [List.nil_append, List.drop_zero] at h2 h3
  have h4 := purT_out (aff id v ls 0)
  rw [← h2, ← h3] at h4
  simpa [F4, h1, getE_set, getE_drop] using h4
end Go.Sim
