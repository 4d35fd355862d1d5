/- Part 27 of the proof: CbLaw25H. -/
import Derived.Test.YtcihddahcplehaaGreatDoorB17
import Derived.Test.YtcihddahcplehaaGreatDoorB26
import Derived.Test.YtcihddahcplehaaGreatDoorB18
open Go Go.Sim Go.RowKit
namespace Go.Proofs.YtcihddahcplehaaGreatDoor
set_option maxRecDepth 100000
theorem gok {W:World} {laid:List (String×DataW Unit)} (h:laidMet Tryz.prog laid W) (hm0:("internal/strconv.uint64pow10",(.agg (Lib.pow10Tab.map fun z=>.lit (.int .u64 z)):DataW Unit))∈laid) (hm4:("strings.asciiSpace",(.agg (asciiL.map fun z=>.lit (.int .u8 z)):DataW Unit))∈laid):GOK nm TA25Hm2.G W (Live W):=by
 refine qBB (gs:=gsL) (by kernel_rfl) ?_
 intro x hx v k hv;simp only[glL,List.mem_cons,List.not_mem_nil,or_false] at hx;rcases hx with rfl|rfl|rfl|rfl|rfl|rfl
 ·have hv:(some (DV.a (Lib.pow10Tab.map fun z=>DV.i .u64 z),(some 20:K)))=some (v,k):=hv
  cases hv;exact qy0 h hm0 (by kernel_rfl:Tryz.prog.globalNamed "internal/strconv.uint64pow10" = some 8) (by kernel_rfl:(Tryz.prog.globals[8]?).map (·.type)=some 346) Tryz.underlying346 Tryz.underlying47 (by kernel_rfl) (by kernel_rfl) (by decide)
 ·have hv:(none:Option (DV×K))=some (v,k):=hv
  cases hv
 ·have hv:(some (DV.a (asciiL.map fun z=>DV.i .u8 z),(some 256:K)))=some (v,k):=hv
  cases hv;exact qy0 h hm4 (by kernel_rfl:Tryz.prog.globalNamed "strings.asciiSpace" = some 2) (by kernel_rfl:(Tryz.prog.globals[2]?).map (·.type)=some 301) Tryz.underlying301 Tryz.underlying5 (by kernel_rfl) (by kernel_rfl) (by decide)
 ·have hv:(none:Option (DV×K))=some (v,k):=hv
  cases hv
 ·have hv:(none:Option (DV×K))=some (v,k):=hv
  cases hv
 ·have hv:(none:Option (DV×K))=some (v,k):=hv
  cases hv
theorem law (W:World) (v0 v1 v2:Value) (d0 d1 d2:DV) (xs0 xs1 xs2:List DV) (e0:mkD (some 22) xs0=some d0) (e1:mkD (some 6) xs1=some d1) (e2:mkD (some 3) xs2=some d2)
  (h0:qam ABooks.ty xs0) (h1:qam AHold.ty xs1) (h2:qam [.i .i64,.i .i64,.i .i64] xs2)
  (r0:RelD W (Live W) d0 v0) (r1:RelD W (Live W) d1 v1) (r2:RelD W (Live W) d2 v2) (hg:GOK nm TA25Hm2.G W (Live W)) :
  Calls Tryz.prog 3 #[v0,v1,v2] W fun e W'=>e = .returned (.bool true)∧Below W.heap.size W W':=by
 obtain rfl:=qnS e0;obtain⟨x0,ex0,o0⟩:=ABooks.of xs0 h0;rw[ex0] at r0;obtain rfl:=qnS e1;obtain⟨x1,ex1,o1⟩:=AHold.of xs1 h1;rw[ex1] at r1;obtain rfl:=qnS e2;obtain⟨_,_,rfl,k2_0,h2⟩:=qgd h2;obtain⟨_,_,rfl,k2_1,h2⟩:=qgd h2;obtain⟨_,_,rfl,k2_2,h2⟩:=qgd h2;obtain rfl:=qcp h2;obtain⟨y2_0,rfl,q2_0⟩:=qkv k2_0;obtain⟨y2_1,rfl,q2_1⟩:=qkv k2_1;obtain⟨y2_2,rfl,q2_2⟩:=qkv k2_2;exact qER tok (qEd x0 o0 (qDp ex0 h0) x1 o1 y2_0 y2_1 y2_2) (us:=[v0,v1,v2]) (Live.swf W) hg rfl (fun j hj hj'=>by
  match j,hj with
  | 0,_=>exact r0
  | 1,_=>exact r1
  | 2,_=>exact r2)
end Go.Proofs.YtcihddahcplehaaGreatDoor

