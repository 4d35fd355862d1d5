/- Part 33 of the proof: CbDist. -/
import GoSem.ClaimChange
set_option linter.all false
open Go
namespace Go.Sim
def mkey : MemPlace → Nat
 | .cell b o => b * 1024 + o + 1
 | _ => 0
def distB : Nat → List Nat → Bool
 | _, [] => true
 | acc, k :: r => !(acc.testBit k) && distB (acc ||| (1 <<< k)) r
theorem distB_spec : ∀ (l : List Nat) (acc : Nat), distB acc l = true → l.Nodup ∧ ∀ k ∈ l, acc.testBit k = false
 | [], _, _ => ⟨List.nodup_nil, fun _ h => by cases h⟩
 | k :: r, acc, h => by
  simp only [distB, Bool.and_eq_true, Bool.not_eq_true'] at h
  obtain ⟨h1, h2⟩ := h
  obtain ⟨i1, i2⟩ := distB_spec r _ h2
  have hb : ∀ j ∈ r, acc.testBit j = false ∧ j ≠ k := fun j hj => by
   have := i2 j hj
   rw [Nat.testBit_or, Bool.or_eq_false_iff, Nat.one_shiftLeft] at this
   refine ⟨this.1, fun e => ?_⟩
   subst e
   rw [Nat.testBit_two_pow_self] at this
   exact Bool.noConfusion this.2
  refine ⟨List.nodup_cons.2 ⟨fun hk => (hb k hk).2 rfl, i1⟩, fun j hj => ?_⟩
  rcases List.mem_cons.1 hj with rfl | hj
  ·exact h1
  ·exact (hb j hj).1
theorem nodup_of_distB {l : List MemPlace} (h : distB 0 (l.map mkey) = true) : l.Nodup := by
 have := (distB_spec _ _ h).1
 unfold List.Nodup at this ⊢
 rw [List.pairwise_map] at this
 exact this.imp fun h e => h (by rw [e])
end Go.Sim

