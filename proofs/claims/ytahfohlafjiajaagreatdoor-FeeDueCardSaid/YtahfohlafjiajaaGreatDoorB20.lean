/- Part 20 of the proof: CbFin28D. -/
import Derived.Test.YtahfohlafjiajaaGreatDoorB14
import Derived.Test.YtahfohlafjiajaaGreatDoorB15
import Derived.Test.YtahfohlafjiajaaGreatDoorB19
import Derived.KernelRfl
open Go Go.Sim Go.RowKit
namespace Go.Proofs.YtahfohlafjiajaaGreatDoor
set_option maxRecDepth 100000
theorem qJL:XOK Tryz.prog nm cx TA28D.G 718 .join:=⟨Tryz.lays156_ren,Tryz.lays156,Tryz.Builder_Extra_156,by kernel_rfl⟩
theorem qJI:XOK Tryz.prog nm cx TA28D.G 423 .cnt:=⟨Tryz.lays138_ren,Tryz.lays138,by kernel_rfl⟩
theorem qJJ:XOK Tryz.prog nm cx TA28D.G 440 .par:=⟨Tryz.laysC174_ren,Tryz.laysC174,by kernel_rfl,by kernel_rfl,by kernel_rfl⟩
theorem qJK:XOK Tryz.prog nm cx TA28D.G 451 .ato:=⟨Tryz.lays172_ren,Tryz.lays172,by kernel_rfl⟩
theorem xok : ∀x∈xsL,XOK Tryz.prog nm cx TA28D.G x.1 x.2:=by
 simp only[xsL,List.forall_mem_cons,List.not_mem_nil,false_imp_iff,implies_true,and_true];exact⟨qJL,qyJ,qJI,qJJ,qJK⟩
theorem rok : ∀x∈rsL,ROK Tryz.prog nm cx TA28D.G x.1 x.2:=by
 intro x h;cases h
theorem qHk:TabOK Tryz.prog nm cx TA28D:=qHe nok fok xok rok
theorem tok:TabOK Tryz.prog nm cx TA28Dm2:=qvm (qvm qHk qCl qCm) qCn qCo
end Go.Proofs.YtahfohlafjiajaaGreatDoor

