/- Part 17 of the proof. -/
import Derived.Test.YtpfeklkomlghlaaGreatDoorB12
import Derived.Test.YtpfeklkomlghlaaGreatDoorB16
set_option linter.all false
namespace Go.Sim
set_option maxRecDepth 100000
set_option maxHeartbeats 8000000
def qwc:Cy:=[]
def qBA:PV×CO:=(.d (.l K0 [(.s [112,114,111,100,117,99,116]),(.s [99,117,114,114,101,110,99,121]),(.s [99,97,108,101,110,100,97,114]),(.s [102,114,111,109]),(.s [101,118,101,114,121]),(.s [111,118,101,114,100,114,97,102,116]),(.s [116,97,120]),(.s [99,114,101,100,105,116]),(.s [100,101,98,105,116]),(.s [109,97,114,103,105,110,97,108]),(.s [119,104,111,108,101]),(.s [97,99,116,51,54,48]),(.s [97,99,116,51,54,53]),(.s [97,99,116,117,97,108]),(.s [116,104,105,114,116,121]),(.s [100,111,119,110]),(.s [117,112]),(.s [102,108,111,111,114]),(.s [99,101,105,108]),(.s [104,97,108,102,95,117,112]),(.s [104,97,108,102,95,101,118,101,110]),(.s [107,101,101,112]),(.s [100,114,111,112]),(.s [102,101,101]),(.s [108,105,109,105,116]),(.s [119,104,101,110]),(.s [97,109,111,117,110,116,95,111,102]),(.s [115,105,110,103,108,101]),(.s [100,97,105,108,121]),(.s [109,111,110,116,104,108,121]),(.s [109,111,110,116,104]),(.s [114,101,116,117,114,110]),(.s [99,108,111,115,101]),(.s [101,118,101,110,116]),(.s [105,102]),(.s [116,104,101,110]),(.s [101,108,115,101]),(.s [97,110,100]),(.s [111,114]),(.s [110,111,116]),(.s [109,105,110]),(.s [109,97,120])] false),false)
def qJ5:TA28C.val 438 qwc=some qBA:=qjL 400 (by kernel_rfl)
def ms1:CL (Nat×Rows):=[(438,[(qwc,qBA)])]
noncomputable def TA28Cm1:Tab:=qg1 TA28C ms1
def qKq:∀x∈ms1,∀y∈x.2,TA28C.val x.1 y.1=some y.2:=by simp only[ms1,List.forall_mem_cons,zzC,false_imp_iff,implies_true,and_true];exact qJ5
def qKr:∀x∈ms1,(TA28C.F x.1).isSome=true:=by simp only[ms1,List.forall_mem_cons,zzC,false_imp_iff,implies_true,and_true];kernel_rfl
