/- Part 37 of the proof: CbJf28A, CbRowB28A. -/
import Derived.Test.YtahfohlafjiajaaGreatDoorB31
import Derived.Test.YtahfohlafjiajaaGreatDoorB33
import Derived.Test.YtahfohlafjiajaaGreatDoorB34
import Derived.Test.YtahfohlafjiajaaGreatDoorB35
import Derived.Test.YtahfohlafjiajaaGreatDoorB36
import Derived.Test.YtahfohlafjiajaaGreatDoorB25
import Derived.Test.YtahfohlafjiajaaGreatDoorB30
import Derived.Test.YtahfohlafjiajaaGreatDoorRows
section
open Go
namespace Go.Proofs.YtahfohlafjiajaaGreatDoor
set_option maxRecDepth 100000
theorem qbT {a b:Bool} (h:a=true) (k:b=true):(a&&b)=true:=by rw[h,k];rfl
theorem qyz:joinedFacts Tryz.prog 5 Tryz.f5 Rows.feeApartSpec Rows.feeApartRow=true :=
 qbT (qbT (qbT (qbT (qbT (qbT (qbT (qbT (qbT (qbT (qbT (qbT (qbT (qbT (qbT (qbT (qbT (qbT (qbT (qbT (qbT (qbT (qbT (qbT (qbT (qbT (qbT (qbT (qbT (qbT (qbT (jf0) qsb) jf2) jf3) jf4) jf5) jf6) jf7) jf8) jf9) qD0) qzl) qA7) qDQ) qAv) qCi) qA3) qAV) qvC) qAL) qzx) qx2) qDN) qAJ) qv1) qyx) qC9) qAF) qBM) qDh) qAm) qDO
end Go.Proofs.YtahfohlafjiajaaGreatDoor
end
section
open Go Go.Sim Go.RowKit Go.ChangeShapes Go.WideShapes
namespace Go.Proofs.YtahfohlafjiajaaGreatDoor
set_option maxRecDepth 100000
theorem qCn:Rows.FeeApartSaid :=
 OpenClaim.holds_of_wide 5 Tryz.f5 rfl rfl rfl rfl rfl rfl rfl ⟨rfl,rfl,rfl,rfl,rfl⟩ rfl rfl rfl rfl rfl (by kernel_rfl) Tryz.func5 qyz
  (of_decide_eq_true (by kernel_rfl)) (by unfold Func.isWrapper;first|(rw[if_pos (by decide +kernel)];kernel_rfl)|(rw[if_neg (by decide +kernel)];exact⟨rfl,rfl⟩))
  (fun os started H enc _=>lifted os started H enc)
end Go.Proofs.YtahfohlafjiajaaGreatDoor
end
