/- Part 39 of the proof: CbJf52Y, CbRowB52Y. -/
import Derived.Test.YtpjacfiddgajfaaGreatDoorYB33
import Derived.Test.YtpjacfiddgajfaaGreatDoorYB35
import Derived.Test.YtpjacfiddgajfaaGreatDoorYB36
import Derived.Test.YtpjacfiddgajfaaGreatDoorYB37
import Derived.Test.YtpjacfiddgajfaaGreatDoorYB38
import Derived.Test.YtpjacfiddgajfaaGreatDoorYB27
import Derived.Test.YtpjacfiddgajfaaGreatDoorYB32
import Derived.Test.YtpjacfiddgajfaaGreatDoorRows
section
open Go
namespace Go.Proofs.YtpjacfiddgajfaaGreatDoor
set_option maxRecDepth 100000
theorem andT {a b : Bool} (h : a = true) (k : b = true) : (a && b) = true := by rw [h, k]; rfl
theorem closed : joinedFacts Tryz.prog 4 Tryz.f4 Rows.eodBeforeSpec Rows.eodBeforeRow = true :=
 andT (andT (andT (andT (andT (andT (andT (andT (andT (andT (andT (andT (andT (andT (andT (andT (andT (andT (andT (andT (andT (andT (andT (andT (andT (andT (andT (andT (andT (andT (andT (jf0) laidOut) jf2) jf3) jf4) jf5) jf6) jf7) jf8) jf9) jf10) jf11) jf12) jf13) jf14) jf15) jf16) jf17) jf18) jf19) jf20) jf21) jf22) jf23) jf24) jf25) jf26) jf27) jf28) jf29) jf30) jf31
end Go.Proofs.YtpjacfiddgajfaaGreatDoor
end
section
open Go Go.Sim Go.RowKit Go.ChangeShapes Go.WideShapes
namespace Go.Proofs.YtpjacfiddgajfaaGreatDoor
set_option maxRecDepth 100000
theorem eodBefore_holds : Rows.EodBeforeSaid :=
 OpenClaim.holds_of_wide 4 Tryz.f4 rfl rfl rfl rfl rfl rfl rfl ⟨rfl, rfl, rfl, rfl, rfl⟩ rfl rfl rfl rfl rfl (by kernel_rfl) Tryz.func4 closed
  (of_decide_eq_true (by kernel_rfl)) (by unfold Func.isWrapper; first | (rw [if_pos (by decide +kernel)]; kernel_rfl) | (rw [if_neg (by decide +kernel)]; exact ⟨rfl, rfl⟩))
  (fun os started H enc _ => lifted os started H enc)
end Go.Proofs.YtpjacfiddgajfaaGreatDoor
end
