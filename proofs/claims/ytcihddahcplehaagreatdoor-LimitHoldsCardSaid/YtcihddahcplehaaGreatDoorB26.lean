/- Part 26 of the proof: CbL25H, CbSimH. -/
import Derived.Test.YtcihddahcplehaaGreatDoorB24
import Derived.Test.YtcihddahcplehaaGreatDoorB25
import Derived.Test.YtcihddahcplehaaGreatDoorB8
import Derived.Carry
import Derived.Handed
import Derived.ProofKit
import Derived.LaidMore
import Derived.Stop.Joined
section
namespace Go.Sim
set_option maxRecDepth 100000
theorem hCx:HCl TA25Hm2 228 (K1 6) 56:=fun ds=>qFZ _ rfl ds
theorem qHs:tabU.All fun n F=>TA25Hm2.F n=some F:=⟨rfl,⟨rfl,⟨rfl,⟨rfl,⟨rfl,trivial,trivial⟩,⟨rfl,trivial,trivial⟩⟩,⟨rfl,⟨rfl,trivial,trivial⟩,trivial⟩⟩,⟨rfl,⟨rfl,⟨rfl,trivial,trivial⟩,⟨rfl,trivial,trivial⟩⟩,⟨rfl,⟨rfl,trivial,trivial⟩,trivial⟩⟩⟩,⟨rfl,⟨rfl,⟨rfl,⟨rfl,trivial,trivial⟩,⟨rfl,trivial,trivial⟩⟩,⟨rfl,⟨rfl,trivial,trivial⟩,trivial⟩⟩,⟨rfl,⟨rfl,⟨rfl,trivial,trivial⟩,trivial⟩,⟨rfl,⟨rfl,trivial,trivial⟩,trivial⟩⟩⟩⟩
theorem h0:HU TA25Hm2:=fun _ _ h=>PT.get_all h qHs
theorem qEs:tabS.All fun n F=>TA25Hm2.F n=some F:=⟨rfl,⟨rfl,⟨rfl,⟨rfl,⟨rfl,⟨rfl,⟨rfl,trivial,trivial⟩,trivial⟩,⟨rfl,trivial,trivial⟩⟩,⟨rfl,⟨rfl,⟨rfl,trivial,trivial⟩,trivial⟩,⟨rfl,trivial,trivial⟩⟩⟩,⟨rfl,⟨rfl,⟨rfl,⟨rfl,trivial,trivial⟩,trivial⟩,⟨rfl,trivial,trivial⟩⟩,⟨rfl,⟨rfl,⟨rfl,trivial,trivial⟩,trivial⟩,⟨rfl,trivial,trivial⟩⟩⟩⟩,⟨rfl,⟨rfl,⟨rfl,⟨rfl,⟨rfl,trivial,trivial⟩,trivial⟩,⟨rfl,trivial,trivial⟩⟩,⟨rfl,⟨rfl,⟨rfl,trivial,trivial⟩,trivial⟩,⟨rfl,trivial,trivial⟩⟩⟩,⟨rfl,⟨rfl,⟨rfl,⟨rfl,trivial,trivial⟩,trivial⟩,⟨rfl,trivial,trivial⟩⟩,⟨rfl,⟨rfl,trivial,trivial⟩,⟨rfl,trivial,trivial⟩⟩⟩⟩⟩,⟨rfl,⟨rfl,⟨rfl,⟨rfl,⟨rfl,⟨rfl,trivial,trivial⟩,trivial⟩,⟨rfl,trivial,trivial⟩⟩,⟨rfl,⟨rfl,⟨rfl,trivial,trivial⟩,trivial⟩,⟨rfl,trivial,trivial⟩⟩⟩,⟨rfl,⟨rfl,⟨rfl,⟨rfl,trivial,trivial⟩,trivial⟩,⟨rfl,trivial,trivial⟩⟩,⟨rfl,⟨rfl,trivial,trivial⟩,⟨rfl,trivial,trivial⟩⟩⟩⟩,⟨rfl,⟨rfl,⟨rfl,⟨rfl,⟨rfl,trivial,trivial⟩,trivial⟩,⟨rfl,trivial,trivial⟩⟩,⟨rfl,⟨rfl,⟨rfl,trivial,trivial⟩,trivial⟩,⟨rfl,trivial,trivial⟩⟩⟩,⟨rfl,⟨rfl,⟨rfl,⟨rfl,trivial,trivial⟩,trivial⟩,⟨rfl,trivial,trivial⟩⟩,⟨rfl,⟨rfl,trivial,trivial⟩,⟨rfl,trivial,trivial⟩⟩⟩⟩⟩⟩
theorem h1:HS TA25Hm2:=fun _ _ h=>PT.get_all h qEs
theorem qAW:tabP.All fun n F=>TA25Hm2.F n=some F:=⟨rfl,⟨rfl,⟨rfl,trivial,trivial⟩,⟨rfl,trivial,trivial⟩⟩,⟨rfl,⟨rfl,trivial,trivial⟩,⟨rfl,trivial,trivial⟩⟩⟩
theorem h2:HP TA25Hm2:=fun _ _ h=>PT.get_all h qAW
theorem qG5:tabH.All fun n F=>TA25Hm2.F n=some F:=⟨rfl,⟨rfl,⟨rfl,⟨rfl,trivial,trivial⟩,trivial⟩,⟨rfl,⟨rfl,trivial,trivial⟩,trivial⟩⟩,⟨rfl,⟨rfl,⟨rfl,trivial,trivial⟩,trivial⟩,⟨rfl,trivial,trivial⟩⟩⟩
theorem h3:HHo TA25Hm2:=fun _ _ h=>PT.get_all h qG5
theorem qEd (b:ABooks) (hb:b.ok) (hty:qam ABooks.ty b.cells) (h:AHold) (hh:h.ok) (i d a:Int):TA25Hm2.val 1088 [b.dv,h.dv,.a [I i,I d,I a]]=some (.d (.b true),false):=qAJ TA25Hm2 h0 h1 h2 h3 hCx qGx b hb hty h hh i d a
end Go.Sim
end
section
open Go.RowKit Go.WideShapes Go.ChangeShapes
namespace Go.Sim
section
variable {H : Type} {enc : TypeId × Value → H} {P : Program}
theorem qwb (hl:laidOutB P=true) {W W':World} (hb:Below W.heap.size W W') : ∀{ts:List TypeId} {vs:List Value} {ds:List (DataW H)} {ps:List MemPlace},
  (ts.all fun t=>P.readableRec t&&decide (t<P.types.size))=true→(∀x∈ps,x.block<W.heap.size) →
  DataW.TrodAll enc P W 0 (fun _=>true) true ts vs ds ps→DataW.TrodAll enc P W' 0 (fun b=>decide (b<W.heap.size)) true ts vs ds ps
 | [],[],[],ps,_,_,h=>h
 |t::ts,v::vs,d::ds,ps,hr,hlt,h=>by
  obtain⟨p,q,h1,h2,rfl⟩:=h;simp only[List.all_cons,zzf,zzq] at hr;exact⟨p,q,Below.trod hl hr.1.1 hr.1.2 h1 hb (fun x hx=>hlt x (List.mem_append_left _ hx)),qwb hl hb (by simpa using hr.2) (fun x hx=>hlt x (List.mem_append_right _ hx)) h2,rfl⟩
 | [],[],_::_,_,_,_,h=>h.elim
 | [],_::_,_,_,_,_,h=>h.elim
 | _::_,[],_,_,_,_,h=>h.elim
 | _::_,_::_,[],_,_,_,h=>h.elim
theorem qLa {f:FuncId} {fn:Func} {s:ChangeSpec} {apart fresh handsOn:Bool} {W:World} {args:Array Value} {ds gs:List (DataW H)} {before:List MemPlace} {tb:TypeId}
  (hl:laidOutB P=true) (hpr:(fn.params.toList.all fun t=>P.readableRec t&&decide (t<P.types.size))=true) (hrt:fn.resultTypes = #[tb]) (htb:P.underlying tb=some .bool) (hv:s.vars=[])
  (hfn:(s.fn H (ds++gs)).results=[.lit (.bool true)]∧(s.fn H (ds++gs)).args=ds∧(s.fn H (ds++gs)).vars=[])
  (hW:DataW.Whole enc P fn.params.toList s.vars apart W args.toList ds gs before)
  (hc:Calls P f args W fun e W'=>e = .returned (.bool true)∧Below W.heap.size W W') :
  Calls P f args W fun e W'=>∃v,e = .returned v∧s.post enc P fn apart fresh handsOn false W args v W':=by
 refine hc.mono ?_;rintro e W' ⟨rfl,hb⟩;refine⟨_,rfl,?_⟩;have hlt:=hW.lt
 obtain⟨p,q,h1,h2,rfl,h4,h5⟩:=id hW;refine⟨ds,gs,p++q,[],p,[],hW,?_,?_,?_,hb.frame _,fun h=>by cases h⟩
 ·rw[hfn.1,hrt];exact⟨[],[],shut_bool htb true,rfl,rfl⟩
 ·rw[hfn.2.1];exact qwb hl hb hpr (fun x hx=>hlt x (List.mem_append_left _ hx)) h1
 ·rw[hfn.2.2,hv];rfl
theorem qoO {ts:List TypeId} {ds:List (DataW H)} (h:(DataW.weightsEach P ts ds).all (fun n=>decide (n≤reachBytes))=true) (i:Nat) {t:TypeId} {d:DataW H} (ht:ts[i]? = some t) (hd:ds[i]? = some d):Wts P t d:=by
 obtain⟨h1,rfl⟩:=zzk.1 ht;obtain⟨h2,rfl⟩:=zzk.1 hd;exact qqL (fun n hn=>by simpa using List.all_eq_true.1 h n hn) i h1 h2
theorem qst {W:World} {r:Reach} {b0:Nat} {sp:Nat→Bool} {held:Bool} {t:TypeId} {v:Value} {d:DataW H} {ps:List MemPlace} {n:Nat} {ts:List Ty} {k:K}
  (hval:Value.okWide P W r b0 t v) (h:DataW.Trod enc P W 0 sp held t v d ps) (hw:Wts P t d) (ht:qf3 P n t=some ts) (hk:kq P t=some k) :
  ∃xs e,mkD k xs=some e∧qam ts xs∧RelD W (Live W) e v:=by
 obtain⟨fuel,h⟩:=h;have hc:=qKn n h hw ht
 have one : ∀{v:Value},CR W ts [v]→∃xs e,mkD none xs=some e∧qam ts xs∧RelD W (Live W) e v:=by
  intro v hc;obtain⟨xs,h1,h2,h3⟩:=hc.data;match xs,h2 with
  | [x],_=>exact⟨[x],x,rfl,h1,h3 0 (by simp) (by simp)⟩
 have many : ∀{cs:Array Value},CR W ts cs.toList→kq P t=some (some (P.cellsOf t))→cs.size=P.cellsOf t→v = .agg cs→∃xs e,mkD k xs=some e∧qam ts xs∧RelD W (Live W) e v:=by
  intro cs hc hk' hn hv;obtain rfl:=Option.some.inj (hk.symm.trans hk');obtain⟨xs,h1,h2,h3⟩:=hc.data;refine⟨xs,.a xs,by simp[mkD,h2,hn],h1,?_⟩
  subst hv;obtain⟨cs⟩:=cs;exact .a xs cs h2 hc.flat h3
 unfold kq at hk many;unfold Value.okWide at hval;split at hval
 ·rename_i fs hu;obtain⟨cs,rfl,hn,-⟩:=hval;exact many (by simpa[Value.cells] using hc) (by rw[hu]) hn rfl
 ·rename_i m e hu;obtain⟨cs,rfl,hn,-⟩:=hval;exact many (by simpa[Value.cells] using hc) (by rw[hu]) hn rfl
 ·rename_i hns hna;split at hk
  ·rename_i fs hu;exact absurd hu (hns fs)
  ·rename_i m e hu;exact absurd hu (hna m e)
  ·split at hk
   ·cases hk;cases v with
    |agg cs =>
     exfalso
     unfold Cell.okWide Cell.ok at hval;split at hval<;>simp_all
    | _=>exact one (by simpa[Value.cells] using hc)
   ·cases hk
  ·cases hk
end
end Go.Sim
end
