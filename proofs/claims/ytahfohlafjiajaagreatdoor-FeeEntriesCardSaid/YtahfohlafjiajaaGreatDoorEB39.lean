/- Part 39 of the proof: CbJf28E, CbRowB28E. -/
import Derived.Test.YtahfohlafjiajaaGreatDoorEB33
import Derived.Test.YtahfohlafjiajaaGreatDoorEB35
import Derived.Test.YtahfohlafjiajaaGreatDoorEB36
import Derived.Test.YtahfohlafjiajaaGreatDoorEB37
import Derived.Test.YtahfohlafjiajaaGreatDoorEB38
import Derived.Test.YtahfohlafjiajaaGreatDoorEB27
import Derived.Test.YtahfohlafjiajaaGreatDoorEB32
import Derived.Test.YtahfohlafjiajaaGreatDoorRows
section
open Go
namespace Go.Proofs.YtahfohlafjiajaaGreatDoor
set_option maxRecDepth 100000
theorem qbC {a b:Bool} (h:a=true) (k:b=true):(a&&b)=true:=by rw[h,k];rfl
theorem qza:joinedFacts Tryz.prog 4 Tryz.f4 Rows.feeEntriesSpec Rows.feeEntriesRow=true :=
 qbC (qbC (qbC (qbC (qbC (qbC (qbC (qbC (qbC (qbC (qbC (qbC (qbC (qbC (qbC (qbC (qbC (qbC (qbC (qbC (qbC (qbC (qbC (qbC (qbC (qbC (qbC (qbC (qbC (qbC (qbC (jf0) qvn) jf2) jf3) jf4) jf5) jf6) jf7) jf8) jf9) qAq) qAr) qAs) qAt) qAu) qAv) qAw) qAx) qAy) qAz) qAA) qAB) qAC) qAD) qAE) qAF) qAG) qAH) qAI) qAJ) qAK) qAL
end Go.Proofs.YtahfohlafjiajaaGreatDoor
end
section
open Go Go.Sim Go.RowKit Go.ChangeShapes Go.WideShapes
namespace Go.Proofs.YtahfohlafjiajaaGreatDoor
set_option maxRecDepth 100000
theorem qzM:Rows.FeeEntriesSaid :=
 OpenClaim.holds_of_wide 4 Tryz.f4 rfl rfl rfl rfl rfl rfl rfl ⟨rfl,rfl,rfl,rfl,rfl⟩ rfl rfl rfl rfl rfl (by kernel_rfl) Tryz.func4 qza
  (of_decide_eq_true (by kernel_rfl)) (by unfold Func.isWrapper;first|(rw[if_pos (by decide +kernel)];kernel_rfl)|(rw[if_neg (by decide +kernel)];exact⟨rfl,rfl⟩))
  (fun os started H enc _=>lifted os started H enc)
end Go.Proofs.YtahfohlafjiajaaGreatDoor
end
