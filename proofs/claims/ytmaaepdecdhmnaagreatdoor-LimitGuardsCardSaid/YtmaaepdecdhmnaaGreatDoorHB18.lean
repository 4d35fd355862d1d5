/- Part 18 of the proof. -/
import Derived.Test.YtmaaepdecdhmnaaGreatDoorHB17
set_option linter.all false
namespace Go.Sim
set_option maxRecDepth 100000
set_option maxHeartbeats 8000000
def qwF:Ct:=[(.l (K1 2) [(.a [(.s [98,97,108,97,110,99,101]),(I 2)]),(.a [(.s [108,111,119,101,115,116]),(I 2)]),(.a [(.s [118,111,108,117,109,101]),(I 2)]),(.a [(.s [97,109,111,117,110,116]),(I 2)]),(.a [(.s [99,111,117,110,116]),(I 1)]),(.a [(.s [97,103,101]),(I 1)]),(.a [(.s [100,97,121]),(I 4)])] false)]
def qBO:PV×CG:=(.d (I 0),false)
def qKB:TA25Gm1.val 945 qwF=some qBO:=qjY 400 (by kernel_rfl)
def ms2:CF (Nat×Rows):=[(945,[(qwF,qBO)])]
noncomputable def TA25Gm2:Tab:=qg4 TA25Gm1 ms2
def qKU:∀x∈ms2,∀y∈x.2,TA25Gm1.val x.1 y.1=some y.2:=by
 simp only[ms2,List.forall_mem_cons,zzC,false_imp_iff,implies_true,and_true];exact qKB
def qKV:∀x∈ms2,(TA25Gm1.F x.1).isSome=true:=by
 simp only[ms2,List.forall_mem_cons,zzC,false_imp_iff,implies_true,and_true];kernel_rfl
