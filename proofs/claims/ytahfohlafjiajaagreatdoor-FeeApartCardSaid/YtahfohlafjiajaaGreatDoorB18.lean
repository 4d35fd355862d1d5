/- Part 18 of the proof: CbFin28A. -/
import Derived.Test.YtahfohlafjiajaaGreatDoorB12
import Derived.Test.YtahfohlafjiajaaGreatDoorB13
import Derived.Test.YtahfohlafjiajaaGreatDoorB17
import Derived.KernelRfl
open Go Go.Sim Go.RowKit
namespace Go.Proofs.YtahfohlafjiajaaGreatDoor
set_option maxRecDepth 100000
theorem qBK:XOK Tryz.prog nm cx TA28A.G 718 .join:=⟨Tryz.lays156_ren,Tryz.lays156,Tryz.Builder_Extra_156,by kernel_rfl⟩
theorem qDh:XOK Tryz.prog nm cx TA28A.G 423 .cnt:=⟨Tryz.lays138_ren,Tryz.lays138,by kernel_rfl⟩
theorem qxK:XOK Tryz.prog nm cx TA28A.G 440 .par:=⟨Tryz.laysC174_ren,Tryz.laysC174,by kernel_rfl,by kernel_rfl,by kernel_rfl⟩
theorem qEw:XOK Tryz.prog nm cx TA28A.G 451 .ato:=⟨Tryz.lays172_ren,Tryz.lays172,by kernel_rfl⟩
theorem xok : ∀x∈xsL,XOK Tryz.prog nm cx TA28A.G x.1 x.2:=by
 simp only[xsL,List.forall_mem_cons,List.not_mem_nil,false_imp_iff,implies_true,and_true];exact⟨qBK,qAy,qDh,qxK,qEw⟩
theorem rok : ∀x∈rsL,ROK Tryz.prog nm cx TA28A.G x.1 x.2:=by
 intro x h;cases h
theorem qCy:TabOK Tryz.prog nm cx TA28A:=qz3 nok fok xok rok
theorem tok:TabOK Tryz.prog nm cx TA28Am2:=qtK (qtK qCy qEU qET) qya qwe
end Go.Proofs.YtahfohlafjiajaaGreatDoor

