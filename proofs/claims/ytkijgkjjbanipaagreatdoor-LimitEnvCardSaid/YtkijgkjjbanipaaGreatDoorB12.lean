/- Part 12 of the proof: Cb25Em2. -/
import Derived.Test.YtkijgkjjbanipaaGreatDoorB11
import Derived.Test.YtkijgkjjbanipaaGreatDoorB10
import Derived.KernelRfl
set_option linter.all false
namespace Go.Sim
set_option maxRecDepth 1000000
def a945_0 : List DV := [(.l (K1 2) [(.a [(.s [98, 97, 108, 97, 110, 99, 101]), (I 2)]), (.a [(.s [108, 111, 119, 101, 115, 116]), (I 2)]), (.a [(.s [118, 111, 108, 117, 109, 101]), (I 2)]), (.a [(.s [97, 109, 111, 117, 110, 116]), (I 2)]), (.a [(.s [99, 111, 117, 110, 116]), (I 1)]), (.a [(.s [97, 103, 101]), (I 1)]), (.a [(.s [100, 97, 121]), (I 4)])] false)]
def r945_0 : PV × Bool := (.d (I 0), false)
theorem m945_0 : TA25Em1.val 945 a945_0 = some r945_0 := val_run 400 (by kernel_rfl)
def ms2 : List (Nat × Rows) := [(945, [(a945_0, r945_0)])]
noncomputable def TA25Em2 : Tab := memoTab TA25Em1 ms2
theorem ms2_ok : ∀ x ∈ ms2, ∀ y ∈ x.2, TA25Em1.val x.1 y.1 = some y.2 := by
 simp only [ms2, List.forall_mem_cons, List.not_mem_nil, false_imp_iff, implies_true, and_true]
 exact m945_0
theorem ms2_some : ∀ x ∈ ms2, (TA25Em1.F x.1).isSome = true := by
 simp only [ms2, List.forall_mem_cons, List.not_mem_nil, false_imp_iff, implies_true, and_true]
 kernel_rfl
end Go.Sim

