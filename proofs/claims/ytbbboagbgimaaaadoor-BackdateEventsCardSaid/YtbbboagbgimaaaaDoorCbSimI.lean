/- Taking typed data apart. -/
import Derived.Test.YtbbboagbgimaaaaDoorCbSimG
namespace Go.Sim
theorem hasL_cons {t : Ty} {ts : List Ty} {xs : List DV} (h : HasL (t :: ts) xs) : ∃ x r, xs = x :: r ∧ Has t x ∧ HasL ts r := by
  cases xs with
  | nil => simp [HasL] at h
  | cons x r => rw [HasL] at h; exact ⟨x, r, rfl, h.1, h.2⟩
theorem hasL_nil {xs : List DV} (h : HasL [] xs) : xs = [] := by
  cases xs with
  | nil => rfl
  | cons x r => simp [HasL] at h
theorem has_i {k : IntKind} {x : DV} (h : Has (.i k) x) : ∃ n, x = .i k n ∧ (Lit.int k n).wf = true := by rw [Has] at h; exact h
theorem has_b {x : DV} (h : Has .b x) : ∃ c, x = .b c := by rw [Has] at h; exact h
theorem has_s {x : DV} (h : Has .s x) : ∃ l, x = .s l ∧ l.length ≤ maxLen := by rw [Has] at h; exact h
theorem list_of {α : Type} {f : α → DV} : ∀ {es : List DV}, (∀ e ∈ es, ∃ a, e = f a) → ∃ l : List α, es = l.map f
  | [], _ => ⟨[], rfl⟩
  | e :: es, h => by
    obtain ⟨a, ha⟩ := h e (List.mem_cons_self ..)
    obtain ⟨l, hl⟩ := list_of fun x hx => h x (List.mem_cons_of_mem _ hx)
    exact ⟨a :: l, by rw [ha, hl]; rfl⟩
/-- A slice of structs. -/
theorem has_l {α : Type} {f : α → DV} {n : Nat} {ts : List Ty} {x : DV} (h : Has (.l (some n) ts) x) (hf : ∀ cs, HasL ts cs → ∃ a, DV.a cs = f a) : ∃ (l : List α) (t : Bool), x = .l (some n) (l.map f) t ∧ l.length ≤ maxLen := by
  rw [Has] at h
  obtain ⟨es, t, rfl, h1, h2⟩ := h
  obtain ⟨l, rfl⟩ := list_of (f := f) (es := es) fun e he => by
    obtain ⟨cs, h3, h4⟩ := h2 e he
    obtain ⟨a, ha⟩ := hf cs h4
    refine ⟨a, ?_⟩
    simp only [mkD] at h3
    split at h3
    · cases h3; exact ha
    · cases h3
  exact ⟨l, t, rfl, by simpa using h1⟩
/-- A slice of scalars. -/
theorem has_l1 {α : Type} {f : α → DV} {t : Ty} {x : DV} (h : Has (.l none [t]) x) (hf : ∀ y, Has t y → ∃ a, y = f a) : ∃ (l : List α) (t : Bool), x = .l none (l.map f) t ∧ l.length ≤ maxLen := by
  rw [Has] at h
  obtain ⟨es, t, rfl, h1, h2⟩ := h
  obtain ⟨l, rfl⟩ := list_of (f := f) (es := es) fun e he => by
    obtain ⟨cs, h3, h4⟩ := h2 e he
    obtain ⟨y, r, rfl, h5, h6⟩ := hasL_cons h4
    obtain rfl := hasL_nil h6
    simp only [mkD, Option.some.injEq] at h3
    subst h3
    exact hf y h5
  exact ⟨l, t, rfl, by simpa using h1⟩
theorem mkD_some {n : Nat} {xs : List DV} {e : DV} (h : mkD (some n) xs = some e) : e = .a xs := by
  simp only [mkD] at h
  split at h
  · cases h; rfl
  · cases h
theorem mkD_none {xs : List DV} {e : DV} (h : mkD none xs = some e) : xs = [e] := by
  simp only [mkD] at h
  split at h
  · cases h; rfl
  · cases h
end Go.Sim
