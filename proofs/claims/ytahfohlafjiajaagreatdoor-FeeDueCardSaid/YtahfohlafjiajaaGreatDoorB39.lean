/- Part 39 of the proof: CbJf28D, CbRowB28D. -/
import Derived.Test.YtahfohlafjiajaaGreatDoorB33
import Derived.Test.YtahfohlafjiajaaGreatDoorB35
import Derived.Test.YtahfohlafjiajaaGreatDoorB36
import Derived.Test.YtahfohlafjiajaaGreatDoorB37
import Derived.Test.YtahfohlafjiajaaGreatDoorB38
import Derived.Test.YtahfohlafjiajaaGreatDoorB27
import Derived.Test.YtahfohlafjiajaaGreatDoorB32
import Derived.Test.YtahfohlafjiajaaGreatDoorRows
section
open Go
namespace Go.Proofs.YtahfohlafjiajaaGreatDoor
set_option maxRecDepth 100000
theorem qbI {a b:Bool} (h:a=true) (k:b=true):(a&&b)=true:=by rw[h,k];rfl
theorem qyM:joinedFacts Tryz.prog 3 Tryz.f3 Rows.feeDueSpec Rows.feeDueRow=true :=
 qbI (qbI (qbI (qbI (qbI (qbI (qbI (qbI (qbI (qbI (qbI (qbI (qbI (qbI (qbI (qbI (qbI (qbI (qbI (qbI (qbI (qbI (qbI (qbI (qbI (qbI (qbI (qbI (qbI (qbI (qbI (jf0) qu5) jf2) jf3) jf4) jf5) jf6) jf7) jf8) jf9) qz0) qz1) qz2) qz3) qz4) qz5) qz6) qz7) qz8) qz9) qAa) qAb) qAc) qAd) qAe) qAf) qAg) qAh) qAi) qAj) qAk) qAl
end Go.Proofs.YtahfohlafjiajaaGreatDoor
end
section
open Go Go.Sim Go.RowKit Go.ChangeShapes Go.WideShapes
namespace Go.Proofs.YtahfohlafjiajaaGreatDoor
set_option maxRecDepth 100000
theorem qzn:Rows.FeeDueSaid :=
 OpenClaim.holds_of_wide 3 Tryz.f3 rfl rfl rfl rfl rfl rfl rfl ⟨rfl,rfl,rfl,rfl,rfl⟩ rfl rfl rfl rfl rfl (by kernel_rfl) Tryz.func3 qyM
  (of_decide_eq_true (by kernel_rfl)) (by unfold Func.isWrapper;first|(rw[if_pos (by decide +kernel)];kernel_rfl)|(rw[if_neg (by decide +kernel)];exact⟨rfl,rfl⟩))
  (fun os started H enc _=>lifted os started H enc)
end Go.Proofs.YtahfohlafjiajaaGreatDoor
end
