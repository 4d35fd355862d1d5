/- Part 19 of the proof. -/
import Derived.Test.YtpfeklkomlghlaaGreatDoorB13
import Derived.Test.YtpfeklkomlghlaaGreatDoorB14
import Derived.Test.YtpfeklkomlghlaaGreatDoorB18
set_option linter.all false
section
open Go Go.Sim Go.RowKit
namespace Go.Proofs.YtpfeklkomlghlaaGreatDoor
set_option maxRecDepth 100000
def qSj:XOK Tryz.prog nm cx TA28C.G 718 .join:=⟨Tryz.Cs,Tryz.lays156,Tryz.Cw,by kernel_rfl⟩
def qSg:XOK Tryz.prog nm cx TA28C.G 423 .cnt:=⟨Tryz.Ct,Tryz.lays138,by kernel_rfl⟩
def qSh:XOK Tryz.prog nm cx TA28C.G 440 .par:=⟨Tryz.Cu,Tryz.laysC174,by kernel_rfl,by kernel_rfl,by kernel_rfl⟩
def qSi:XOK Tryz.prog nm cx TA28C.G 451 .ato:=⟨Tryz.Cv,Tryz.lays172,by kernel_rfl⟩
def qyH:Go.Shelf.Ren:=⟨fun|22=>26|29=>64|30=>65|n=>n,fun|0=>0|3=>3|4=>4|9=>55|24=>52|n=>n,λn=>n⟩
def qGY:InsL Tryz.prog (cx.μ 269) qyH (K1 2).size:={
 mixed:=by kernel_rfl
 bears:=⟨_,by decide,Tryz.func26⟩
 ov:=⟨_,Tryz.func64,by kernel_rfl,by kernel_rfl,by kernel_rfl,by kernel_rfl⟩
 t3:=Tryz.underlying3
 a3:=Tryz.isAgg3
 z3:=Tryz.sizeOf3
 v3:=Tryz.zeroValue3
 t4:=Tryz.underlying4
 a4:=Tryz.isAgg4
 z4:=Tryz.sizeOf4
 v4:=Tryz.zeroValue4
 t24:=Tryz.underlying52
 a24:=Tryz.isAgg52
 z24:=Tryz.sizeOf52
 v24:=Tryz.zeroValue52
 z9:=Tryz.sizeOf55 }
def qOV:ROK Tryz.prog nm cx TA28C.G 269 (.ins (K1 2) 24):=⟨qyH,.a [.s [],I 0],qGY,by kernel_rfl,by kernel_rfl,by kernel_rfl,by decide,by decide⟩
def xok:∀x∈xsL,XOK Tryz.prog nm cx TA28C.G x.1 x.2:=by simp only[xsL,List.forall_mem_cons,zzC,false_imp_iff,implies_true,and_true];exact⟨qSj,qE7,qSg,qSh,qSi⟩
def rok:∀x∈rsL,ROK Tryz.prog nm cx TA28C.G x.1 x.2:=by simp only[rsL,List.forall_mem_cons,zzC,false_imp_iff,implies_true,and_true];exact qOV
def qQm:TabOK Tryz.prog nm cx TA28C:=qQe nok fok xok rok
def tok:TabOK Tryz.prog nm cx TA28Cm2:=qAo (qAo qQm qKq qKr) qKs qKt
