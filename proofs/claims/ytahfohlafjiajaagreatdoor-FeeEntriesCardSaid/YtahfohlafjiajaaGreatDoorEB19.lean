/- Part 19 of the proof: Cb28Em2. -/
import Derived.Test.YtahfohlafjiajaaGreatDoorEB18
import Derived.Test.YtahfohlafjiajaaGreatDoorEB17
import Derived.KernelRfl
namespace Go.Sim
set_option maxRecDepth 1000000
def qs5:List DV:=[(.l (K1 2) [(.a [(.s [98,97,108,97,110,99,101]),(I 2)]),(.a [(.s [108,111,119,101,115,116]),(I 2)]),(.a [(.s [118,111,108,117,109,101]),(I 2)]),(.a [(.s [97,109,111,117,110,116]),(I 2)]),(.a [(.s [99,111,117,110,116]),(I 1)]),(.a [(.s [97,103,101]),(I 1)]),(.a [(.s [100,97,121]),(I 4)])] false)]
def qwF:PV×Bool:=(.d (I 0),false)
theorem qCD:TA28Em1.val 945 qs5=some qwF:=qhv 400 (by kernel_rfl)
def ms2:List (Nat×Rows):=[(945,[(qs5,qwF)])]
noncomputable def TA28Em2:Tab:=qhO TA28Em1 ms2
theorem qCW : ∀x∈ms2,∀y∈x.2,TA28Em1.val x.1 y.1=some y.2:=by
 simp only[ms2,List.forall_mem_cons,List.not_mem_nil,false_imp_iff,implies_true,and_true];exact qCD
theorem qCX : ∀x∈ms2,(TA28Em1.F x.1).isSome=true:=by
 simp only[ms2,List.forall_mem_cons,List.not_mem_nil,false_imp_iff,implies_true,and_true];kernel_rfl
end Go.Sim

