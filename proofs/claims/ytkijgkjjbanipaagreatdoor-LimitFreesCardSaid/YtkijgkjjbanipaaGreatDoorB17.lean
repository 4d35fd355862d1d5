/- Part 17 of the proof: Cb25Fm2. -/
import Derived.Test.YtkijgkjjbanipaaGreatDoorB16
import Derived.Test.YtkijgkjjbanipaaGreatDoorB15
import Derived.KernelRfl
namespace Go.Sim
set_option maxRecDepth 1000000
def qrP:List DV:=[(.l (K1 2) [(.a [(.s [98,97,108,97,110,99,101]),(I 2)]),(.a [(.s [108,111,119,101,115,116]),(I 2)]),(.a [(.s [118,111,108,117,109,101]),(I 2)]),(.a [(.s [97,109,111,117,110,116]),(I 2)]),(.a [(.s [99,111,117,110,116]),(I 1)]),(.a [(.s [97,103,101]),(I 1)]),(.a [(.s [100,97,121]),(I 4)])] false)]
def qtQ:PV×Bool:=(.d (I 0),false)
theorem qwj:TA25Fm1.val 945 qrP=some qtQ:=qhU 400 (by kernel_rfl)
def ms2:List (Nat×Rows):=[(945,[(qrP,qtQ)])]
noncomputable def TA25Fm2:Tab:=qgN TA25Fm1 ms2
theorem qxF : ∀x∈ms2,∀y∈x.2,TA25Fm1.val x.1 y.1=some y.2:=by
 simp only[ms2,List.forall_mem_cons,List.not_mem_nil,false_imp_iff,implies_true,and_true];exact qwj
theorem qBs : ∀x∈ms2,(TA25Fm1.F x.1).isSome=true:=by
 simp only[ms2,List.forall_mem_cons,List.not_mem_nil,false_imp_iff,implies_true,and_true];kernel_rfl
end Go.Sim

