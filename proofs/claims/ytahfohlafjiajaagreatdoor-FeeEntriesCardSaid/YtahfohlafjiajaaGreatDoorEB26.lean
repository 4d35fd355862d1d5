/- Part 26 of the proof: CbLaw28E. -/
import Derived.Test.YtahfohlafjiajaaGreatDoorEB20
import Derived.Test.YtahfohlafjiajaaGreatDoorEB25
import Derived.Test.YtahfohlafjiajaaGreatDoorEB21
open Go Go.Sim Go.RowKit
namespace Go.Proofs.YtahfohlafjiajaaGreatDoor
set_option maxRecDepth 100000
theorem gok {W:World} {laid:List (String×DataW Unit)} (h:laidMet Tryz.prog laid W) (hm0:("internal/strconv.uint64pow10",(.agg (Lib.pow10Tab.map fun z=>.lit (.int .u64 z)):DataW Unit))∈laid) (hm4:("strings.asciiSpace",(.agg (asciiL.map fun z=>.lit (.int .u8 z)):DataW Unit))∈laid) (hm5:("strconv.ErrSyntax",(.iface "*errors.errorString" (.ptr (.agg [.lit (.string [105,110,118,97,108,105,100,32,115,121,110,116,97,120])])):DataW Unit))∈laid) (hm6:("strconv.ErrRange",(.iface "*errors.errorString" (.ptr (.agg [.lit (.string [118,97,108,117,101,32,111,117,116,32,111,102,32,114,97,110,103,101])])):DataW Unit))∈laid):GOK nm TA28Em2.G W (Live W):=by
 refine qz6 (gs:=gsL) (by kernel_rfl) ?_
 intro x hx v k hv;simp only[glL,List.mem_cons,List.not_mem_nil,or_false] at hx;rcases hx with rfl|rfl|rfl|rfl|rfl|rfl
 ·have hv:(some (DV.a (Lib.pow10Tab.map fun z=>DV.i .u64 z),(some 20:K)))=some (v,k):=hv
  cases hv;exact quE h hm0 (by kernel_rfl:Tryz.prog.globalNamed "internal/strconv.uint64pow10" = some 8) (by kernel_rfl:(Tryz.prog.globals[8]?).map (·.type)=some 365) Tryz.underlying365 Tryz.underlying45 (by kernel_rfl) (by kernel_rfl) (by decide)
 ·have hv:(none:Option (DV×K))=some (v,k):=hv
  cases hv
 ·have hv:(some (DV.a (asciiL.map fun z=>DV.i .u8 z),(some 256:K)))=some (v,k):=hv
  cases hv;exact quE h hm4 (by kernel_rfl:Tryz.prog.globalNamed "strings.asciiSpace" = some 2) (by kernel_rfl:(Tryz.prog.globals[2]?).map (·.type)=some 322) Tryz.underlying322 Tryz.underlying5 (by kernel_rfl) (by kernel_rfl) (by decide)
 ·have hv:(none:Option (DV×K))=some (v,k):=hv
  cases hv
 ·have hv:(some (DV.tok 0,(none:K)))=some (v,k):=hv
  cases hv;exact quD h hm5 (by kernel_rfl:Tryz.prog.globalNamed "strconv.ErrSyntax" = some 6) (by kernel_rfl:(Tryz.prog.globals[6]?).map (·.type)=some 152) Tryz.underlying152 0
 ·have hv:(some (DV.tok 1,(none:K)))=some (v,k):=hv
  cases hv;exact quD h hm6 (by kernel_rfl:Tryz.prog.globalNamed "strconv.ErrRange" = some 7) (by kernel_rfl:(Tryz.prog.globals[7]?).map (·.type)=some 152) Tryz.underlying152 1
theorem law (W:World) (v0 v1 v2:Value) (d0 d1 d2:DV) (xs0 xs1 xs2:List DV) (e0:mkD (some 22) xs0=some d0) (e1:mkD (some 4) xs1=some d1) (e2:mkD none xs2=some d2)
  (h0:qaA ABooks.ty xs0) (h1:qaA [.i .i64,.i .i64,.i .i64,.i .i64] xs1) (h2:qaA [.l (K1 2) 24 ACharge.ty] xs2)
  (r0:RelD W (Live W) d0 v0) (r1:RelD W (Live W) d1 v1) (r2:RelD W (Live W) d2 v2) (hg:GOK nm TA28Em2.G W (Live W)) :
  Calls Tryz.prog 4 #[v0,v1,v2] W fun e W'=>e = .returned (.bool true)∧Below W.heap.size W W':=by
 obtain rfl:=qry e0;obtain⟨x0,ex0,o0⟩:=ABooks.of xs0 h0;rw[ex0] at r0;obtain rfl:=qry e1;obtain⟨_,_,rfl,k1_0,h1⟩:=qgD h1;obtain⟨_,_,rfl,k1_1,h1⟩:=qgD h1;obtain⟨_,_,rfl,k1_2,h1⟩:=qgD h1;obtain⟨_,_,rfl,k1_3,h1⟩:=qgD h1;obtain rfl:=qcy h1;obtain⟨y1_0,rfl,q1_0⟩:=qkc k1_0;obtain⟨y1_1,rfl,q1_1⟩:=qkc k1_1;obtain⟨y1_2,rfl,q1_2⟩:=qkc k1_2;obtain⟨y1_3,rfl,q1_3⟩:=qkc k1_3;obtain rfl:=qCM e2;obtain⟨_,_,g2,h2,-⟩:=qgD h2;cases g2;obtain⟨x2,rfl,o2⟩:=(fun h=>qxe h ACharge.of) h2
 exact qBf tok (qBe x0 o0 y1_0 y1_1 y1_2 y1_3 x2.l x2.t) (us:=[v0,v1,v2]) (Live.swf W) hg rfl (fun j hj hj'=>by
  match j,hj with
  | 0,_=>exact r0
  | 1,_=>exact r1
  | 2,_=>exact r2)
end Go.Proofs.YtahfohlafjiajaaGreatDoor

