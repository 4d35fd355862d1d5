/- Part 17 of the proof: CbFin25H. -/
import Derived.Test.YtcihddahcplehaaGreatDoorB11
import Derived.Test.YtcihddahcplehaaGreatDoorB12
import Derived.Test.YtcihddahcplehaaGreatDoorB16
import Derived.KernelRfl
open Go Go.Sim Go.RowKit
namespace Go.Proofs.YtcihddahcplehaaGreatDoor
set_option maxRecDepth 100000
theorem qKb:XOK Tryz.prog nm cx TA25H.G 423 .cnt:=⟨Tryz.lays138_ren,Tryz.lays138,by kernel_rfl⟩
def qvk:Go.Shelf.Ren:=⟨fun|22=>98|29=>132|30=>133|n=>n,fun|0=>0|3=>3|4=>4|9=>54|24=>46|n=>n,fun n=>n⟩
theorem qI5:InsL Tryz.prog (cx.μ 264) qvk (K1 3).size:={
 mixed:=by kernel_rfl
 bears:=⟨_,by decide,Tryz.func98⟩
 ov:=⟨_,Tryz.func132,by kernel_rfl,by kernel_rfl,by kernel_rfl,by kernel_rfl⟩
 t3:=Tryz.underlying3
 a3:=Tryz.isAgg3
 z3:=Tryz.sizeOf3
 v3:=Tryz.zeroValue3
 t4:=Tryz.underlying4
 a4:=Tryz.isAgg4
 z4:=Tryz.sizeOf4
 v4:=Tryz.zeroValue4
 t24:=Tryz.underlying46
 a24:=Tryz.isAgg46
 z24:=Tryz.sizeOf46
 v24:=Tryz.zeroValue46
 z9:=Tryz.sizeOf54 }
theorem qBQ:ROK Tryz.prog nm cx TA25H.G 264 (.ins (K1 3) 32):=⟨qvk,.a [I 0,I 0,.s []],qI5,by kernel_rfl,by kernel_rfl,by kernel_rfl,by decide,by decide⟩
theorem xok : ∀x∈xsL,XOK Tryz.prog nm cx TA25H.G x.1 x.2:=by
 simp only[xsL,List.forall_mem_cons,List.not_mem_nil,false_imp_iff,implies_true,and_true];exact⟨qIn,qKb⟩
theorem rok : ∀x∈rsL,ROK Tryz.prog nm cx TA25H.G x.1 x.2:=by
 simp only[rsL,List.forall_mem_cons,List.not_mem_nil,false_imp_iff,implies_true,and_true];exact qBQ
theorem qDA:TabOK Tryz.prog nm cx TA25H:=qAd nok fok xok rok
theorem tok:TabOK Tryz.prog nm cx TA25Hm2:=qs2 (qs2 qDA qJO qHL) qCA qHY
end Go.Proofs.YtcihddahcplehaaGreatDoor

