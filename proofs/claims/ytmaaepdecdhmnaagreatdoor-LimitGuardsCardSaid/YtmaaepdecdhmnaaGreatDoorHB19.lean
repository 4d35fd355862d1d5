/- Part 19 of the proof. -/
import Derived.Test.YtmaaepdecdhmnaaGreatDoorHB13
import Derived.Test.YtmaaepdecdhmnaaGreatDoorHB14
import Derived.Test.YtmaaepdecdhmnaaGreatDoorHB18
set_option linter.all false
section
open Go Go.Sim Go.RowKit
namespace Go.Proofs.YtmaaepdecdhmnaaGreatDoor
set_option maxRecDepth 100000
def qSX:XOK Tryz.prog nm cx TA25G.G 423 .cnt:=⟨Tryz.Cq,Tryz.lays138,by kernel_rfl⟩
def qSY:XOK Tryz.prog nm cx TA25G.G 440 .par:=⟨Tryz.Cs,Tryz.laysC174,by kernel_rfl,by kernel_rfl,by kernel_rfl⟩
def qSZ:XOK Tryz.prog nm cx TA25G.G 451 .ato:=⟨Tryz.Cr,Tryz.lays172,by kernel_rfl⟩
def qy0:Go.Shelf.Ren:=⟨fun|22=>97|29=>136|30=>137|n=>n,fun|0=>0|3=>3|4=>4|9=>97|24=>94|n=>n,λn=>n⟩
def qHo:InsL Tryz.prog (cx.μ 269) qy0 (K1 2).size:={
 mixed:=by kernel_rfl
 bears:=⟨_,by decide,Tryz.func97⟩
 ov:=⟨_,Tryz.func136,by kernel_rfl,by kernel_rfl,by kernel_rfl,by kernel_rfl⟩
 t3:=Tryz.underlying3
 a3:=Tryz.isAgg3
 z3:=Tryz.sizeOf3
 v3:=Tryz.zeroValue3
 t4:=Tryz.underlying4
 a4:=Tryz.isAgg4
 z4:=Tryz.sizeOf4
 v4:=Tryz.zeroValue4
 t24:=Tryz.underlying94
 a24:=Tryz.isAgg94
 z24:=Tryz.sizeOf94
 v24:=Tryz.zeroValue94
 z9:=Tryz.sizeOf97 }
def qPt:ROK Tryz.prog nm cx TA25G.G 269 (.ins (K1 2) 24):=⟨qy0,.a [.s [],I 0],qHo,by kernel_rfl,by kernel_rfl,by kernel_rfl,by decide,by decide⟩
def qyZ:Go.Shelf.Ren:=⟨fun|22=>100|29=>140|30=>141|n=>n,fun|0=>0|3=>3|4=>4|9=>46|24=>34|n=>n,λn=>n⟩
def qHn:InsL Tryz.prog (cx.μ 264) qyZ (K1 3).size:={
 mixed:=by kernel_rfl
 bears:=⟨_,by decide,Tryz.func100⟩
 ov:=⟨_,Tryz.func140,by kernel_rfl,by kernel_rfl,by kernel_rfl,by kernel_rfl⟩
 t3:=Tryz.underlying3
 a3:=Tryz.isAgg3
 z3:=Tryz.sizeOf3
 v3:=Tryz.zeroValue3
 t4:=Tryz.underlying4
 a4:=Tryz.isAgg4
 z4:=Tryz.sizeOf4
 v4:=Tryz.zeroValue4
 t24:=Tryz.underlying34
 a24:=Tryz.isAgg34
 z24:=Tryz.sizeOf34
 v24:=Tryz.zeroValue34
 z9:=Tryz.sizeOf46 }
def qPs:ROK Tryz.prog nm cx TA25G.G 264 (.ins (K1 3) 32):=⟨qyZ,.a [I 0,I 0,.s []],qHn,by kernel_rfl,by kernel_rfl,by kernel_rfl,by decide,by decide⟩
def xok:∀x∈xsL,XOK Tryz.prog nm cx TA25G.G x.1 x.2:=by
 simp only[xsL,List.forall_mem_cons,zzC,false_imp_iff,implies_true,and_true];exact⟨qSX,qSY,qSZ⟩
def rok:∀x∈rsL,ROK Tryz.prog nm cx TA25G.G x.1 x.2:=by
 simp only[rsL,List.forall_mem_cons,zzC,false_imp_iff,implies_true,and_true];exact⟨qPt,qPs⟩
def qQ0:TabOK Tryz.prog nm cx TA25G:=qQT nok fok xok rok
def tok:TabOK Tryz.prog nm cx TA25Gm2:=qAC (qAC qQ0 qKS qKT) qKU qKV
