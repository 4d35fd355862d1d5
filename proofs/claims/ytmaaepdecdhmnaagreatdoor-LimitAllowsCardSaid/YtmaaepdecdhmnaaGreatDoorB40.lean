/- Part 40 of the proof. -/
import Derived.Test.YtmaaepdecdhmnaaGreatDoorB34
import Derived.Test.YtmaaepdecdhmnaaGreatDoorB36
import Derived.Test.YtmaaepdecdhmnaaGreatDoorB37
import Derived.Test.YtmaaepdecdhmnaaGreatDoorB38
import Derived.Test.YtmaaepdecdhmnaaGreatDoorB39
import Derived.Test.YtmaaepdecdhmnaaGreatDoorB28
import Derived.Test.YtmaaepdecdhmnaaGreatDoorB33
import Derived.Test.YtmaaepdecdhmnaaGreatDoorRows
set_option linter.all false
section
open Go
namespace Go.Proofs.YtmaaepdecdhmnaaGreatDoor
set_option maxRecDepth 100000
theorem qbj{a b:Bool}(h:a=true)(k:b=true):(a&&b)=true:=by rw[h,k];rfl
theorem qzQ:joinedFacts Tryz.prog 3 Tryz.f3 Rows.limitAllowsSpec Rows.limitAllowsRow=true :=
 qbj (qbj (qbj (qbj (qbj (qbj (qbj (qbj (qbj (qbj (qbj (qbj (qbj (qbj (qbj (qbj (qbj (qbj (qbj (qbj (qbj (qbj (qbj (qbj (qbj (qbj (qbj (qbj (qbj (qbj (qbj (jf0) qwb) jf2) jf3) jf4) jf5) jf6) jf7) jf8) jf9) qBc) qBd) qBe) qBf) qBg) qBh) qBi) qBj) qBk) qBl) qBm) qBn) qBo) qBp) qBq) qBr) qBs) qBt) qBu) qBv) qBw) qBx
end Go.Proofs.YtmaaepdecdhmnaaGreatDoor
end
section
open Go Go.Sim Go.RowKit Go.ChangeShapes Go.WideShapes
namespace Go.Proofs.YtmaaepdecdhmnaaGreatDoor
set_option maxRecDepth 100000
theorem qB6:Rows.LimitAllowsSaid :=
 OpenClaim.holds_of_wide 3 Tryz.f3 rfl rfl rfl rfl rfl rfl rfl ⟨rfl,rfl,rfl,rfl,rfl⟩ rfl rfl rfl rfl rfl (by kernel_rfl) Tryz.func3 qzQ
  (of_decide_eq_true (by kernel_rfl)) (by unfold Func.isWrapper;first|(rw[if_pos (by decide +kernel)];kernel_rfl)|(rw[if_neg (by decide +kernel)];exact⟨rfl,rfl⟩))
  (fun os started H enc _=>lifted os started H enc)
end Go.Proofs.YtmaaepdecdhmnaaGreatDoor
end
