/- Entries: cloned, told apart. -/
import Derived.Test.YtbbboagbgimaaaaDoorCbBack
import Derived.Test.YtbbboagbgimaaaaDoorCbSimK
namespace Go.Sim
set_option maxRecDepth 10000
structure Leg where
  (Account Amount : Int)
  Currency : List UInt8
def Leg.dv (l : Leg) : DV := .a [I l.Account, I l.Amount, .s l.Currency]
structure Entry where
  (Id Booked Value Kind Auth Period : Int)
  (Key Text : List UInt8)
  Legs : List Leg
  Chain : Int
def Entry.dv (e : Entry) (t : Bool) : DV := .a [I e.Id, I e.Booked, I e.Value, I e.Kind, I e.Auth, I e.Period, .s e.Key, .s e.Text, .l (K1 3) (e.Legs.map Leg.dv) t, .i .u64 e.Chain]
theorem env_val (f : Nat) (ds : List DV) : T1.env.val f ds = T1.val f ds := rfl
theorem val15 (ls : List Leg) (t : Bool) (h : ls.length ≤ 1000) : T1.val 15 [.l (K1 3) (ls.map Leg.dv) t] = some (.d (.l (K1 3) (ls.map Leg.dv) false), true) := by
  rw [val_ext T1 rfl]
  have hb : ls.length * 32 ≤ 140737488355328 := by omega
  simp [T1, cloneX, hb]
theorem val11 (e : Entry) (t : Bool) : ∃ own, T1.val 11 [e.dv t] = some (.d (.b (e.Kind != 4 && e.Kind != 5)), own) := by
  rw [val_eq T1 (F := F11) rfl]
  refine ⟨false, ?_⟩
  by_cases h : e.Kind = 4
  · simp [F11, Entry.dv, h]
  · have h' : (e.Kind == 4) = false := by simpa using h
    have h2 : (e.Kind != 4) = true := by simpa using h
    simp [F11, Entry.dv, h, h2]
theorem val10 (e : Entry) (t : Bool) (h : e.Legs.length ≤ 1000) : ∃ own, T1.val 10 [e.dv t] = some (.d (e.dv false), own) := by
  rw [val_eq T1 (F := F10) rfl]
  refine ⟨false, ?_⟩
  have hv := fun t => val15 e.Legs t h
  have ht : List.take e.Legs.length (List.map Leg.dv e.Legs) = List.map Leg.dv e.Legs := List.take_of_length_le (by simp)
  simp [F10, Entry.dv, env_val, hv, ht]
/-- A list of entries that grows. -/
def eP (out : List DV) : PV := match out with | [] => .d (.l (K1 10) [] true) | _ :: _ => .r 0 (K1 10) 0 out.length false
def eH (out : List DV) : Heap := match out with | [] => [] | _ :: _ => [some (.sl (K1 10) 0 out)]
theorem purT_outE (out : List DV) : purT (eH out) (eP out) = some (.d (.l (K1 10) out false), true) := by
  cases out with
  | nil => rfl
  | cons x xs => simp [eP, eH]
def ev (e : Entry) : Bool := e.Kind != 4 && e.Kind != 5
/-- The entries are data; each with its mark. -/
def edv (x : Entry × Bool) : DV := x.1.dv x.2
def st6 (js : List (Entry × Bool)) (t : Bool) (out : List DV) (i : Nat) : St := ⟨[(3, eP out), (6, .d (.l (K1 10) (js.map edv) t)), (7, .d (I js.length)), (8, .d (I i))], eH out⟩
theorem round6 (js : List (Entry × Bool)) (t : Bool) (out : List DV) (i : Nat) (hi : i < js.length) (hn : js.length ≤ 1000) (ho : out.length ≤ i) (hl : js[i].1.Legs.length ≤ 1000) :
    ∃ s', evalC T1.env lpI 0 L6_0 (st6 js t out i) = some (.norm, s') ∧ gc [3, 6, 7, 8] 0 s' = st6 js t (if ev js[i].1 then out ++ [js[i].1.dv false] else out) (i + 1) := by
  have h1 : (i : Int) < js.length := by omega
  have h2 : 0 ≤ (i : Int) := by omega
  have h3 : IntKind.i64.wrap ((i : Int) + 1) = (i : Int) + 1 := wrI (by omega) (by omega)
  obtain ⟨own, hv⟩ := val10 js[i].1 js[i].2 hl
  simp only [Entry.dv] at hv
  by_cases hc : js[i].1.Kind = 4
  · have hc' : (js[i].1.Kind != 4) = false := by simpa using hc
    cases out with
    | nil => simp [L6_0, st6, eP, eH, hi, h1, h2, Entry.dv, edv, hc, h3, ev]
    | cons x xs => simp [L6_0, st6, eP, eH, hi, h1, h2, Entry.dv, edv, hc, h3, ev]
  · have hc' : (js[i].1.Kind != 4) = true := by simpa using hc
    by_cases hd : js[i].1.Kind = 5
    · cases out with
      | nil => simp [L6_0, st6, eP, eH, hi, h1, h2, Entry.dv, edv, hd, h3, ev]
      | cons x xs => simp [L6_0, st6, eP, eH, hi, h1, h2, Entry.dv, edv, hd, h3, ev]
    · have hd' : (js[i].1.Kind != 5) = true := by simpa using hd
      cases out with
      | nil => simp [L6_0, st6, eP, eH, hi, h1, h2, Entry.dv, edv, hc', hd', h3, ev, env_val, hv]
      | cons x xs =>
        have hb : (xs.length + 1 + 1) * 112 ≤ 140737488355328 := by simp at ho; omega
        simp [L6_0, st6, eP, eH, hi, h1, h2, Entry.dv, edv, hc', hd', h3, ev, env_val, hv, hb]
end Go.Sim
