/- Part 20 of the proof. -/
import Derived.Test.YtmaaepdecdhmnaaGreatDoorB14
import Derived.Test.YtmaaepdecdhmnaaGreatDoorB15
import Derived.Test.YtmaaepdecdhmnaaGreatDoorB19
import Derived.KernelRfl
section
open Go Go.Sim Go.RowKit
namespace Go.Proofs.YtmaaepdecdhmnaaGreatDoor
set_option maxRecDepth 100000
theorem qL4:XOK Tryz.prog nm cx TA25L.G 423 .cnt:=⟨Tryz.lays138_ren,Tryz.lays138,by kernel_rfl⟩
theorem qL5:XOK Tryz.prog nm cx TA25L.G 440 .par:=⟨Tryz.laysC174_ren,Tryz.laysC174,by kernel_rfl,by kernel_rfl,by kernel_rfl⟩
theorem qL6:XOK Tryz.prog nm cx TA25L.G 451 .ato:=⟨Tryz.lays172_ren,Tryz.lays172,by kernel_rfl⟩
def qvE:Go.Shelf.Ren:=⟨fun|22=>100|29=>140|30=>141|n=>n,fun|0=>0|3=>3|4=>4|9=>46|24=>34|n=>n,fun n=>n⟩
theorem qA2:InsL Tryz.prog (cx.μ 264) qvE (K1 3).size:={
 mixed:=by kernel_rfl
 bears:=⟨_,by decide,Tryz.func100⟩
 ov:=⟨_,Tryz.func140,by kernel_rfl,by kernel_rfl,by kernel_rfl,by kernel_rfl⟩
 t3:=Tryz.underlying3
 a3:=Tryz.isAgg3
 z3:=Tryz.sizeOf3
 v3:=Tryz.zeroValue3
 t4:=Tryz.underlying4
 a4:=Tryz.isAgg4
 z4:=Tryz.sizeOf4
 v4:=Tryz.zeroValue4
 t24:=Tryz.underlying34
 a24:=Tryz.isAgg34
 z24:=Tryz.sizeOf34
 v24:=Tryz.zeroValue34
 z9:=Tryz.sizeOf46 }
theorem qIh:ROK Tryz.prog nm cx TA25L.G 264 (.ins (K1 3) 32):=⟨qvE,.a [I 0,I 0,.s []],qA2,by kernel_rfl,by kernel_rfl,by kernel_rfl,by decide,by decide⟩
theorem xok:∀x∈xsL,XOK Tryz.prog nm cx TA25L.G x.1 x.2:=by
 simp only[xsL,List.forall_mem_cons,zzC,false_imp_iff,implies_true,and_true];exact⟨qL4,qL5,qL6⟩
theorem rok:∀x∈rsL,ROK Tryz.prog nm cx TA25L.G x.1 x.2:=by
 simp only[rsL,List.forall_mem_cons,zzC,false_imp_iff,implies_true,and_true];exact qIh
theorem qJm:TabOK Tryz.prog nm cx TA25L:=qJf nok fok xok rok
theorem tok:TabOK Tryz.prog nm cx TA25Lm2:=qwx (qwx qJm qDM qDN) qDO qDP
end Go.Proofs.YtmaaepdecdhmnaaGreatDoor
end
