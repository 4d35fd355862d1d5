/- Tables of functions and names, as lists. -/
import Derived.Test.YtbbboagbgimaaaaDoorCbSimC
open Go.RowKit
namespace Go.Sim
def tabOf (l : List (Nat × PF)) (n : Nat) : Option PF := match l with
  | [] => none
  | (m, F) :: r => if m = n then some F else tabOf r n
def nameOf (l : List (Nat × Nat × Nat)) (f : Nat) : Option (Nat × Nat) := match l with
  | [] => none
  | (g, x) :: r => if g = f then some x else nameOf r f
def muOf (l : List (Nat × Nat × Nat)) (n : Nat) : Nat := match l with
  | [] => 0
  | (g, k, _) :: r => if k = n then g else muOf r n
theorem nameOf_mem {f : Nat} {x : Nat × Nat} : ∀ {l : List (Nat × Nat × Nat)}, nameOf l f = some x → (f, x) ∈ l
  | [], h => by cases h
  | (g, y) :: r, h => by
    simp only [nameOf] at h
    split at h
    · rename_i hg; subst hg; cases h; exact List.mem_cons_self ..
    · exact List.mem_cons_of_mem _ (nameOf_mem h)
theorem tabOf_mem {f : Nat} {x : PF} : ∀ {l : List (Nat × PF)}, tabOf l f = some x → (f, x) ∈ l
  | [], h => by cases h
  | (g, y) :: r, h => by
    simp only [tabOf] at h
    split at h
    · rename_i hg; subst hg; cases h; exact List.mem_cons_self ..
    · exact List.mem_cons_of_mem _ (tabOf_mem h)
theorem nok_of {P : Program} {l : List (Nat × Nat × Nat)} {G : Nat → Option (DV × K)} {g : Nat → Nat} (hm : P.follows .mixedOrders = true) (h : (l.all fun x => muOf l x.2.1 == x.1) = true) : NOK P ⟨nameOf l, g⟩ ⟨muOf l⟩ G := by
  refine ⟨?_, hm⟩
  intro f x hx
  have := List.all_eq_true.1 h _ (nameOf_mem hx)
  simpa using this
end Go.Sim
