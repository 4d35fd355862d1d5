/- Part 40 of the proof: CbJf25H, CbRowB25H. -/
import Derived.Test.YtcihddahcplehaaGreatDoorB34
import Derived.Test.YtcihddahcplehaaGreatDoorB36
import Derived.Test.YtcihddahcplehaaGreatDoorB37
import Derived.Test.YtcihddahcplehaaGreatDoorB38
import Derived.Test.YtcihddahcplehaaGreatDoorB39
import Derived.Test.YtcihddahcplehaaGreatDoorB28
import Derived.Test.YtcihddahcplehaaGreatDoorB33
import Derived.Test.YtcihddahcplehaaGreatDoorRows
section
open Go
namespace Go.Proofs.YtcihddahcplehaaGreatDoor
set_option maxRecDepth 100000
theorem qa6 {a b:Bool} (h:a=true) (k:b=true):(a&&b)=true:=by rw[h,k];rfl
theorem qGU:joinedFacts Tryz.prog 3 Tryz.f3 Rows.limitHoldsSpec Rows.limitHoldsRow=true :=
 qa6 (qa6 (qa6 (qa6 (qa6 (qa6 (qa6 (qa6 (qa6 (qa6 (qa6 (qa6 (qa6 (qa6 (qa6 (qa6 (qa6 (qa6 (qa6 (qa6 (qa6 (qa6 (qa6 (qa6 (qa6 (qa6 (qa6 (qa6 (qa6 (qa6 (qa6 (jf0) qxr) jf2) jf3) jf4) jf5) jf6) jf7) jf8) jf9) qLD) qLF) qKA) qFt) qD7) qFT) qzI) qCf) qDi) qF7) qDT) qLh) qIP) qHM) qE2) qDb) qJ8) qHg) qFy) qDM) qDz) qIB
end Go.Proofs.YtcihddahcplehaaGreatDoor
end
section
open Go Go.Sim Go.RowKit Go.ChangeShapes Go.WideShapes
namespace Go.Proofs.YtcihddahcplehaaGreatDoor
set_option maxRecDepth 100000
theorem qzw:Rows.LimitHoldsSaid :=
 OpenClaim.holds_of_wide 3 Tryz.f3 rfl rfl rfl rfl rfl rfl rfl ⟨rfl,rfl,rfl,rfl,rfl⟩ rfl rfl rfl rfl rfl (by kernel_rfl) Tryz.func3 qGU
  (of_decide_eq_true (by kernel_rfl)) (by unfold Func.isWrapper;first|(rw[if_pos (by decide +kernel)];kernel_rfl)|(rw[if_neg (by decide +kernel)];exact⟨rfl,rfl⟩))
  (fun os started H enc _=>lifted os started H enc)
end Go.Proofs.YtcihddahcplehaaGreatDoor
end
