/- Part 11 of the proof: Cb25Em1. -/
import Derived.Test.YtkijgkjjbanipaaGreatDoorB8
import Derived.Test.YtkijgkjjbanipaaGreatDoorB10
import Derived.KernelRfl
set_option linter.all false
namespace Go.Sim
set_option maxRecDepth 1000000
def a438_0 : List DV := []
def r438_0 : PV × Bool := (.d (.l K0 [(.s [112, 114, 111, 100, 117, 99, 116]), (.s [99, 117, 114, 114, 101, 110, 99, 121]), (.s [99, 97, 108, 101, 110, 100, 97, 114]), (.s [102, 114, 111, 109]), (.s [101, 118, 101, 114, 121]), (.s [111, 118, 101, 114, 100, 114, 97, 102, 116]), (.s [116, 97, 120]), (.s [99, 114, 101, 100, 105, 116]), (.s [100, 101, 98, 105, 116]), (.s [109, 97, 114, 103, 105, 110, 97, 108]), (.s [119, 104, 111, 108, 101]), (.s [97, 99, 116, 51, 54, 48]), (.s [97, 99, 116, 51, 54, 53]), (.s [97, 99, 116, 117, 97, 108]), (.s [116, 104, 105, 114, 116, 121]), (.s [100, 111, 119, 110]), (.s [117, 112]), (.s [102, 108, 111, 111, 114]), (.s [99, 101, 105, 108]), (.s [104, 97, 108, 102, 95, 117, 112]), (.s [104, 97, 108, 102, 95, 101, 118, 101, 110]), (.s [107, 101, 101, 112]), (.s [100, 114, 111, 112]), (.s [102, 101, 101]), (.s [108, 105, 109, 105, 116]), (.s [119, 104, 101, 110]), (.s [97, 109, 111, 117, 110, 116, 95, 111, 102]), (.s [115, 105, 110, 103, 108, 101]), (.s [100, 97, 105, 108, 121]), (.s [109, 111, 110, 116, 104, 108, 121]), (.s [109, 111, 110, 116, 104]), (.s [114, 101, 116, 117, 114, 110]), (.s [99, 108, 111, 115, 101]), (.s [101, 118, 101, 110, 116]), (.s [105, 102]), (.s [116, 104, 101, 110]), (.s [101, 108, 115, 101]), (.s [97, 110, 100]), (.s [111, 114]), (.s [110, 111, 116]), (.s [109, 105, 110]), (.s [109, 97, 120])] false), false)
theorem m438_0 : TA25E.val 438 a438_0 = some r438_0 := val_run 400 (by kernel_rfl)
def ms1 : List (Nat × Rows) := [(438, [(a438_0, r438_0)])]
noncomputable def TA25Em1 : Tab := memoTab TA25E ms1
theorem ms1_ok : ∀ x ∈ ms1, ∀ y ∈ x.2, TA25E.val x.1 y.1 = some y.2 := by
 simp only [ms1, List.forall_mem_cons, List.not_mem_nil, false_imp_iff, implies_true, and_true]
 exact m438_0
theorem ms1_some : ∀ x ∈ ms1, (TA25E.F x.1).isSome = true := by
 simp only [ms1, List.forall_mem_cons, List.not_mem_nil, false_imp_iff, implies_true, and_true]
 kernel_rfl
end Go.Sim

