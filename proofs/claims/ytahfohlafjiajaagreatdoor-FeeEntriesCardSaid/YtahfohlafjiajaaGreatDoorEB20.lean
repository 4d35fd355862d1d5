/- Part 20 of the proof: CbFin28E. -/
import Derived.Test.YtahfohlafjiajaaGreatDoorEB14
import Derived.Test.YtahfohlafjiajaaGreatDoorEB15
import Derived.Test.YtahfohlafjiajaaGreatDoorEB19
import Derived.KernelRfl
open Go Go.Sim Go.RowKit
namespace Go.Proofs.YtahfohlafjiajaaGreatDoor
set_option maxRecDepth 100000
theorem qKr:XOK Tryz.prog nm cx TA28E.G 718 .join:=⟨Tryz.lays156_ren,Tryz.lays156,Tryz.Builder_Extra_156,by kernel_rfl⟩
theorem qKo:XOK Tryz.prog nm cx TA28E.G 423 .cnt:=⟨Tryz.lays138_ren,Tryz.lays138,by kernel_rfl⟩
theorem qKp:XOK Tryz.prog nm cx TA28E.G 440 .par:=⟨Tryz.laysC174_ren,Tryz.laysC174,by kernel_rfl,by kernel_rfl,by kernel_rfl⟩
theorem qKq:XOK Tryz.prog nm cx TA28E.G 451 .ato:=⟨Tryz.lays172_ren,Tryz.lays172,by kernel_rfl⟩
theorem xok : ∀x∈xsL,XOK Tryz.prog nm cx TA28E.G x.1 x.2:=by
 simp only[xsL,List.forall_mem_cons,List.not_mem_nil,false_imp_iff,implies_true,and_true];exact⟨qKr,qy7,qKo,qKp,qKq⟩
theorem rok : ∀x∈rsL,ROK Tryz.prog nm cx TA28E.G x.1 x.2:=by
 intro x h;cases h
theorem qHW:TabOK Tryz.prog nm cx TA28E:=qHQ nok fok xok rok
theorem tok:TabOK Tryz.prog nm cx TA28Em2:=qvE (qvE qHW qCU qCV) qCW qCX
end Go.Proofs.YtahfohlafjiajaaGreatDoor

