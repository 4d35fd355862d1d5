/- Part 27 of the proof. -/
import Derived.Test.YtmaaepdecdhmnaaGreatDoorHB19
import Derived.Test.YtmaaepdecdhmnaaGreatDoorHB26
set_option linter.all false
section
open Go Go.Sim Go.RowKit
namespace Go.Proofs.YtmaaepdecdhmnaaGreatDoor
set_option maxRecDepth 100000
def gok{W:World}{laid:List (String×DataW Unit)}(h:laidMet Tryz.prog laid W)(hm0:("internal/strconv.uint64pow10",(.agg (Lib.pow10Tab.map λz=>.lit (.int .u64 z)):DataW Unit))∈laid) (hm4:("strings.asciiSpace",(.agg (asciiL.map λz=>.lit (.int .u8 z)):DataW Unit))∈laid) (hm5:("strconv.ErrSyntax",(.iface "*errors.errorString" (.ptr (.agg [.lit (.string [105,110,118,97,108,105,100,32,115,121,110,116,97,120])])):DataW Unit))∈laid) (hm6:("strconv.ErrRange",(.iface "*errors.errorString" (.ptr (.agg [.lit (.string [118,97,108,117,101,32,111,117,116,32,111,102,32,114,97,110,103,101])])):DataW Unit))∈laid):GOK nm TA25Gm2.G W (Live W):=by
 refine qGW (gs:=gsL) (by kernel_rfl) ?_
 intro x hx v k hv;simp only[glL,List.mem_cons,zzC,or_false]at hx;rcases hx with rfl|rfl|rfl|rfl|rfl|rfl
 ·have hv:(some (DV.a (Lib.pow10Tab.map λz=>DV.i .u64 z),(some 20:K)))=some (v,k):=hv
  cases hv;exact qyG h hm0 (by kernel_rfl:Tryz.prog.globalNamed "internal/strconv.uint64pow10" = some 8) (by kernel_rfl:(Tryz.prog.globals[8]?).map (·.type)=some 364) Tryz.underlying364 Tryz.underlying35 (by kernel_rfl) (by kernel_rfl) (by decide)
 ·have hv:(none:Option (DV×K))=some (v,k):=hv
  cases hv
 ·have hv:(some (DV.a (asciiL.map λz=>DV.i .u8 z),(some 256:K)))=some (v,k):=hv
  cases hv;exact qyG h hm4 (by kernel_rfl:Tryz.prog.globalNamed "strings.asciiSpace" = some 2) (by kernel_rfl:(Tryz.prog.globals[2]?).map (·.type)=some 319) Tryz.underlying319 Tryz.underlying5 (by kernel_rfl) (by kernel_rfl) (by decide)
 ·have hv:(none:Option (DV×K))=some (v,k):=hv
  cases hv
 ·have hv:(some (DV.tok 0,(none:K)))=some (v,k):=hv
  cases hv;exact qyF h hm5 (by kernel_rfl:Tryz.prog.globalNamed "strconv.ErrSyntax" = some 6) (by kernel_rfl:(Tryz.prog.globals[6]?).map (·.type)=some 306) Tryz.underlying306 0
 ·have hv:(some (DV.tok 1,(none:K)))=some (v,k):=hv
  cases hv;exact qyF h hm6 (by kernel_rfl:Tryz.prog.globalNamed "strconv.ErrRange" = some 7) (by kernel_rfl:(Tryz.prog.globals[7]?).map (·.type)=some 306) Tryz.underlying306 1
def law(W:World)(v0 v1:Value)(d0 d1:DV)(xs0 xs1:List DV)(e0:mkD (some 22) xs0=some d0)(e1:mkD (some 10) xs1=some d1)
  (h0:qaA Ap.ty xs0) (h1:qaA Af.ty xs1)
  (r0:Al W (Live W) d0 v0) (r1:Al W (Live W) d1 v1) (hg:GOK nm TA25Gm2.G W (Live W)) :
  Calls Tryz.prog 4 #[v0,v1] W λe W'=>e=.returned (.bool true)/\Below W.heap.size W W':=by
 obtain rfl:=qtL e0;obtain⟨x0,ex0,o0⟩:=Ap.of xs0 h0;rw[ex0]at r0;obtain rfl:=qtL e1;obtain⟨x1,ex1,o1⟩:=Af.of xs1 h1;rw[ex1]at r1;exact qJr tok (qJq x0 o0 (qQ8 ex0 h0) x1 o1) (us:=[v0,v1]) (Live.swf W) hg rfl (λj hj hj'=>by
  match j,hj with
  |0,_=>exact r0
  |1,_=>exact r1)
