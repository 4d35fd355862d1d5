/- Part 29 of the proof: CbJf25E, CbRowB25E. -/
import Derived.Test.YtkijgkjjbanipaaGreatDoorB23
import Derived.Test.YtkijgkjjbanipaaGreatDoorB24
import Derived.Test.YtkijgkjjbanipaaGreatDoorB25
import Derived.Test.YtkijgkjjbanipaaGreatDoorB26
import Derived.Test.YtkijgkjjbanipaaGreatDoorB28
import Derived.Test.YtkijgkjjbanipaaGreatDoorB17
import Derived.Test.YtkijgkjjbanipaaGreatDoorB22
import Derived.Test.YtkijgkjjbanipaaGreatDoorRows
set_option linter.all false
section
open Go
namespace Go.Proofs.YtkijgkjjbanipaaGreatDoor
set_option maxRecDepth 100000
theorem andT {a b : Bool} (h : a = true) (k : b = true) : (a && b) = true := by rw [h, k]; rfl
theorem closed : joinedFacts Tryz.prog 3 Tryz.f3 Rows.limitEnvSpec Rows.limitEnvRow = true :=
 andT (andT (andT (andT (andT (andT (andT (andT (andT (andT (andT (andT (andT (andT (andT (andT (andT (andT (andT (andT (andT (andT (andT (andT (andT (andT (andT (andT (andT (andT (andT (jf0) laidOut) jf2) jf3) jf4) jf5) jf6) jf7) jf8) jf9) jf10) jf11) jf12) jf13) jf14) jf15) jf16) jf17) jf18) jf19) jf20) jf21) jf22) jf23) jf24) jf25) jf26) jf27) jf28) jf29) jf30) jf31
end Go.Proofs.YtkijgkjjbanipaaGreatDoor
end
section
open Go Go.Sim Go.RowKit Go.ChangeShapes Go.WideShapes
namespace Go.Proofs.YtkijgkjjbanipaaGreatDoor
set_option maxRecDepth 100000
theorem limitEnv_holds : Rows.LimitEnvSaid :=
 OpenClaim.holds_of_wide 3 Tryz.f3 rfl rfl rfl rfl rfl rfl rfl ⟨rfl, rfl, rfl, rfl, rfl⟩ rfl rfl rfl rfl rfl (by kernel_rfl) Tryz.func3 closed
  (of_decide_eq_true (by kernel_rfl)) (by unfold Func.isWrapper; first | (rw [if_pos (by decide +kernel)]; kernel_rfl) | (rw [if_neg (by decide +kernel)]; exact ⟨rfl, rfl⟩))
  (fun os started H enc _ => lifted os started H enc)
end Go.Proofs.YtkijgkjjbanipaaGreatDoor
end
