/- Part 18 of the proof: CbFin25F. -/
import Derived.Test.YtkijgkjjbanipaaGreatDoorB12
import Derived.Test.YtkijgkjjbanipaaGreatDoorB13
import Derived.Test.YtkijgkjjbanipaaGreatDoorB17
import Derived.KernelRfl
open Go Go.Sim Go.RowKit
namespace Go.Proofs.YtkijgkjjbanipaaGreatDoor
set_option maxRecDepth 100000
theorem qCf:XOK Tryz.prog nm cx TA25F.G 423 .cnt:=⟨Tryz.lays138_ren,Tryz.lays138,by kernel_rfl⟩
theorem qxb:XOK Tryz.prog nm cx TA25F.G 440 .par:=⟨Tryz.laysC174_ren,Tryz.laysC174,by kernel_rfl,by kernel_rfl,by kernel_rfl⟩
theorem qzQ:XOK Tryz.prog nm cx TA25F.G 451 .ato:=⟨Tryz.lays172_ren,Tryz.lays172,by kernel_rfl⟩
def qu4:Go.Shelf.Ren:=⟨fun|22=>111|29=>157|30=>158|n=>n,fun|0=>0|3=>3|4=>4|9=>56|24=>48|n=>n,fun n=>n⟩
theorem qCU:InsL Tryz.prog (cx.μ 264) qu4 (K1 3).size:={
 mixed:=by kernel_rfl
 bears:=⟨_,by decide,Tryz.func111⟩
 ov:=⟨_,Tryz.func157,by kernel_rfl,by kernel_rfl,by kernel_rfl,by kernel_rfl⟩
 t3:=Tryz.underlying3
 a3:=Tryz.isAgg3
 z3:=Tryz.sizeOf3
 v3:=Tryz.zeroValue3
 t4:=Tryz.underlying4
 a4:=Tryz.isAgg4
 z4:=Tryz.sizeOf4
 v4:=Tryz.zeroValue4
 t24:=Tryz.underlying48
 a24:=Tryz.isAgg48
 z24:=Tryz.sizeOf48
 v24:=Tryz.zeroValue48
 z9:=Tryz.sizeOf56 }
theorem qAO:ROK Tryz.prog nm cx TA25F.G 264 (.ins (K1 3) 32):=⟨qu4,.a [I 0,I 0,.s []],qCU,by kernel_rfl,by kernel_rfl,by kernel_rfl,by decide,by decide⟩
theorem xok : ∀x∈xsL,XOK Tryz.prog nm cx TA25F.G x.1 x.2:=by
 simp only[xsL,List.forall_mem_cons,List.not_mem_nil,false_imp_iff,implies_true,and_true];exact⟨qCf,qxb,qzQ⟩
theorem rok : ∀x∈rsL,ROK Tryz.prog nm cx TA25F.G x.1 x.2:=by
 simp only[rsL,List.forall_mem_cons,List.not_mem_nil,false_imp_iff,implies_true,and_true];exact qAO
theorem qwC:TabOK Tryz.prog nm cx TA25F:=qBX nok fok xok rok
theorem tok:TabOK Tryz.prog nm cx TA25Fm2:=qtY (qtY qwC qCp qxh) qxF qBs
end Go.Proofs.YtkijgkjjbanipaaGreatDoor

