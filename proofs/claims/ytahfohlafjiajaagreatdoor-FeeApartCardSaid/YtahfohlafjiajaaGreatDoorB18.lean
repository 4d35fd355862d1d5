/- Part 18 of the proof: CbFin28A. -/
import Derived.Test.YtahfohlafjiajaaGreatDoorB12
import Derived.Test.YtahfohlafjiajaaGreatDoorB13
import Derived.Test.YtahfohlafjiajaaGreatDoorB17
import Derived.KernelRfl
open Go Go.Sim Go.RowKit
namespace Go.Proofs.YtahfohlafjiajaaGreatDoor
set_option maxRecDepth 100000
theorem qwW:XOK Tryz.prog nm cx TA28A.G 718 .join:=⟨Tryz.lays156_ren,Tryz.lays156,Tryz.Builder_Extra_156,by kernel_rfl⟩
theorem qwL:XOK Tryz.prog nm cx TA28A.G 423 .cnt:=⟨Tryz.lays138_ren,Tryz.lays138,by kernel_rfl⟩
theorem qD2:XOK Tryz.prog nm cx TA28A.G 440 .par:=⟨Tryz.laysC174_ren,Tryz.laysC174,by kernel_rfl,by kernel_rfl,by kernel_rfl⟩
theorem qzC:XOK Tryz.prog nm cx TA28A.G 451 .ato:=⟨Tryz.lays172_ren,Tryz.lays172,by kernel_rfl⟩
theorem xok : ∀x∈xsL,XOK Tryz.prog nm cx TA28A.G x.1 x.2:=by
 simp only[xsL,List.forall_mem_cons,List.not_mem_nil,false_imp_iff,implies_true,and_true];exact⟨qwW,qzN,qwL,qD2,qzC⟩
theorem rok : ∀x∈rsL,ROK Tryz.prog nm cx TA28A.G x.1 x.2:=by
 intro x h;cases h
theorem qBx:TabOK Tryz.prog nm cx TA28A:=qAQ nok fok xok rok
theorem tok:TabOK Tryz.prog nm cx TA28Am2:=qsI (qsI qBx qwz qxT) qxM qxS
end Go.Proofs.YtahfohlafjiajaaGreatDoor

