/- Part 37 of the proof: CbJf28A, CbRowB28A. -/
import Derived.Test.YtahfohlafjiajaaGreatDoorB31
import Derived.Test.YtahfohlafjiajaaGreatDoorB33
import Derived.Test.YtahfohlafjiajaaGreatDoorB34
import Derived.Test.YtahfohlafjiajaaGreatDoorB35
import Derived.Test.YtahfohlafjiajaaGreatDoorB36
import Derived.Test.YtahfohlafjiajaaGreatDoorB25
import Derived.Test.YtahfohlafjiajaaGreatDoorB30
import Derived.Test.YtahfohlafjiajaaGreatDoorRows
section
open Go
namespace Go.Proofs.YtahfohlafjiajaaGreatDoor
set_option maxRecDepth 100000
theorem qbS {a b:Bool} (h:a=true) (k:b=true):(a&&b)=true:=by rw[h,k];rfl
theorem qxJ:joinedFacts Tryz.prog 5 Tryz.f5 Rows.feeApartSpec Rows.feeApartRow=true :=
 qbS (qbS (qbS (qbS (qbS (qbS (qbS (qbS (qbS (qbS (qbS (qbS (qbS (qbS (qbS (qbS (qbS (qbS (qbS (qbS (qbS (qbS (qbS (qbS (qbS (qbS (qbS (qbS (qbS (qbS (qbS (jf0) qqP) jf2) jf3) jf4) jf5) jf6) jf7) jf8) jf9) qCi) qEM) qEr) qAN) qB6) qyj) qDG) qDC) qxz) qy3) qDF) qvZ) qCF) qzM) qxN) qwg) qxg) qAO) qzi) qwW) qwQ) qvH
end Go.Proofs.YtahfohlafjiajaaGreatDoor
end
section
open Go Go.Sim Go.RowKit Go.ChangeShapes Go.WideShapes
namespace Go.Proofs.YtahfohlafjiajaaGreatDoor
set_option maxRecDepth 100000
theorem qzw:Rows.FeeApartSaid :=
 OpenClaim.holds_of_wide 5 Tryz.f5 rfl rfl rfl rfl rfl rfl rfl ⟨rfl,rfl,rfl,rfl,rfl⟩ rfl rfl rfl rfl rfl (by kernel_rfl) Tryz.func5 qxJ
  (of_decide_eq_true (by kernel_rfl)) (by unfold Func.isWrapper;first|(rw[if_pos (by decide +kernel)];kernel_rfl)|(rw[if_neg (by decide +kernel)];exact⟨rfl,rfl⟩))
  (fun os started H enc _=>lifted os started H enc)
end Go.Proofs.YtahfohlafjiajaaGreatDoor
end
