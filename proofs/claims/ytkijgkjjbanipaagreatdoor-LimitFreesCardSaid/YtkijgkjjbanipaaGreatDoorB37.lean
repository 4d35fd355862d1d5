/- Part 37 of the proof: CbJf25F, CbRowB25F. -/
import Derived.Test.YtkijgkjjbanipaaGreatDoorB31
import Derived.Test.YtkijgkjjbanipaaGreatDoorB33
import Derived.Test.YtkijgkjjbanipaaGreatDoorB34
import Derived.Test.YtkijgkjjbanipaaGreatDoorB35
import Derived.Test.YtkijgkjjbanipaaGreatDoorB36
import Derived.Test.YtkijgkjjbanipaaGreatDoorB25
import Derived.Test.YtkijgkjjbanipaaGreatDoorB30
import Derived.Test.YtkijgkjjbanipaaGreatDoorRows
section
open Go
namespace Go.Proofs.YtkijgkjjbanipaaGreatDoor
set_option maxRecDepth 100000
theorem qbS {a b:Bool} (h:a=true) (k:b=true):(a&&b)=true:=by rw[h,k];rfl
theorem qD2:joinedFacts Tryz.prog 6 Tryz.f6 Rows.limitFreesSpec Rows.limitFreesRow=true :=
 qbS (qbS (qbS (qbS (qbS (qbS (qbS (qbS (qbS (qbS (qbS (qbS (qbS (qbS (qbS (qbS (qbS (qbS (qbS (qbS (qbS (qbS (qbS (qbS (qbS (qbS (qbS (qbS (qbS (qbS (qbS (jf0) qu2) jf2) jf3) jf4) jf5) jf6) jf7) jf8) jf9) qEV) qFG) qAx) qEz) qxQ) qwe) qFR) qxp) qAE) qCZ) qyQ) qFN) qEF) qEI) qE3) qw2) qxv) qwS) qDq) qz6) qyh) qAf
end Go.Proofs.YtkijgkjjbanipaaGreatDoor
end
section
open Go Go.Sim Go.RowKit Go.ChangeShapes Go.WideShapes
namespace Go.Proofs.YtkijgkjjbanipaaGreatDoor
set_option maxRecDepth 100000
theorem qGe:Rows.LimitFreesSaid :=
 OpenClaim.holds_of_wide 6 Tryz.f6 rfl rfl rfl rfl rfl rfl rfl ⟨rfl,rfl,rfl,rfl,rfl⟩ rfl rfl rfl rfl rfl (by kernel_rfl) Tryz.func6 qD2
  (of_decide_eq_true (by kernel_rfl)) (by unfold Func.isWrapper;first|(rw[if_pos (by decide +kernel)];kernel_rfl)|(rw[if_neg (by decide +kernel)];exact⟨rfl,rfl⟩))
  (fun os started H enc _=>lifted os started H enc)
end Go.Proofs.YtkijgkjjbanipaaGreatDoor
end
