/- Part 26 of the proof. -/
import Derived.Test.YtmaaepdecdhmnaaGreatDoorB16
import Derived.Test.YtmaaepdecdhmnaaGreatDoorB24
import Derived.Test.YtmaaepdecdhmnaaGreatDoorB25
import Derived.Test.YtmaaepdecdhmnaaGreatDoorB6
import Derived.Carry
import Derived.Handed
import Derived.ProofKit
import Derived.LaidMore
import Derived.Stop.Joined
set_option linter.all false
namespace Go.Sim
set_option maxRecDepth 100000
set_option maxHeartbeats 8000000
theorem qIB{T:Tab}{f:Nat}{args:List PV}{H:Heap}{r:PV×Heap}(n:Nat)(h:(kN T n).it noY f args H=some r):T.ref f args H=some r:=(qoM T f args H r).2 ⟨n,by unfold qh1;rw[←(qre T n).1];exact h⟩
def marksL:List (List UInt8):=[[61,61],[33,61],[60,61],[123],[125],[40],[41],[44],[59],[58],[36],[43],[45],[42],[47],[60]]
def varsL:List AVar:=[⟨[98,97,108,97,110,99,101],2⟩,⟨[108,111,119,101,115,116],2⟩,⟨[118,111,108,117,109,101],2⟩,⟨[97,109,111,117,110,116],2⟩,⟨[99,111,117,110,116],1⟩,⟨[97,103,101],1⟩,⟨[100,97,121],4⟩]
theorem qzz:TA25Lm2.val 438 []=some (.d (.l K0 (wordsL.map DV.s) false),false):=qhy 400 (by kernel_rfl)
theorem qzy:TA25Lm2.val 435 []=some (.d (.l K0 (marksL.map DV.s) false),false):=qhy 400 (by kernel_rfl)
theorem hWx:HWd TA25Lm2:=⟨⟨false,false,qzz⟩,⟨marksL,false,false,qzy,by decide,by decide⟩⟩
theorem qzx:TA25Lm2.val 371 []=some (.d (.l (K1 2) (varsL.map AVar.dv) false),true):=qhy 400 (by kernel_rfl)
theorem qzB:TA25Lm2.val 945 [.l (K1 2) (varsL.map AVar.dv) false]=some (.d (I 0),false):=qhy 400 (by kernel_rfl)
theorem qzA:TA25Lm2.val 678 []=some (.d (.l (K1 2) (varsL.map AVar.dv) false),true):=qhy 400 (by kernel_rfl)
theorem qzC:TA25Lm2.val 968 []=some (.d (.l K0 (wordsL.map DV.s) false),true):=qhy 400 (by kernel_rfl)
theorem qzw:TA25Lm2.val 1040 [.l (K1 2) (varsL.map AVar.dv) false]=some (.d (I 0),false):=qhy 400 (by kernel_rfl)
theorem hAx:HA TA25Lm2:=qIB 400 (by kernel_rfl)
theorem hCx:HC TA25Lm2:=⟨fun ds=>qtw _ rfl ds,fun ds=>qtw _ rfl ds,fun ds=>qtw _ rfl ds⟩
theorem qy1:tabU.All fun n F=>TA25Lm2.F n=some F:=by repeat' first|exact trivial|refine⟨rfl,?_,?_⟩
theorem h0:HU TA25Lm2:=fun _ _ h=>PT.get_all h qy1
theorem qy2:tabV.All fun n F=>TA25Lm2.F n=some F:=by repeat' first|exact trivial|refine⟨rfl,?_,?_⟩
theorem h1:HV TA25Lm2:=fun _ _ h=>PT.get_all h qy2
theorem qy3:tabT.All fun n F=>TA25Lm2.F n=some F:=by repeat' first|exact trivial|refine⟨rfl,?_,?_⟩
theorem h2:HT TA25Lm2:=fun _ _ h=>PT.get_all h qy3
theorem qy4:tabS.All fun n F=>TA25Lm2.F n=some F:=by repeat' first|exact trivial|refine⟨rfl,?_,?_⟩
theorem h3:HS TA25Lm2:=fun _ _ h=>PT.get_all h qy4
theorem qy5:tabR.All fun n F=>TA25Lm2.F n=some F:=by repeat' first|exact trivial|refine⟨rfl,?_,?_⟩
theorem h4:HR TA25Lm2:=fun _ _ h=>PT.get_all h qy5
theorem qy6:tabN.All fun n F=>TA25Lm2.F n=some F:=by repeat' first|exact trivial|refine⟨rfl,?_,?_⟩
theorem h5:HN TA25Lm2:=fun _ _ h=>PT.get_all h qy6
theorem qy7:tabQ.All fun n F=>TA25Lm2.F n=some F:=by repeat' first|exact trivial|refine⟨rfl,?_,?_⟩
theorem h6:HQ TA25Lm2:=fun _ _ h=>PT.get_all h qy7
theorem qy8:tabF25.All fun n F=>TA25Lm2.F n=some F:=by repeat' first|exact trivial|refine⟨rfl,?_,?_⟩
theorem h7:HF5 TA25Lm2:=fun _ _ h=>PT.get_all h qy8
theorem qy9:tabL25.All fun n F=>TA25Lm2.F n=some F:=by repeat' first|exact trivial|refine⟨rfl,?_,?_⟩
theorem h8:H11 TA25Lm2:=fun _ _ h=>PT.get_all h qy9
theorem hIx:HI TA25Lm2:=fun args H=>qIA _ rfl args H
theorem hEx:HEx TA25Lm2:=⟨⟨h2,h3,h0,hCx,hWx,⟨_,_,qzC⟩⟩,h1,hAx,h4,varsL,_,_,qzx,qzA,by decide,qzB,qzw⟩
theorem qBW(b:ABooks)(hb:b.ok)(e:AEntry):TA25Lm2.val 1086 [b.dv,e.dv]=some (.d (.b true),false):=qBV TA25Lm2 hEx h7 h6 h5 hIx h8 qzg b hb e
section
open Go.RowKit
section
variable {P : Program} {W : World}
theorem qJp{t:TypeId}{ms:Array (String×TypeId)}{cs:List Value}{fuel:Nat}{nm:String}{d:DataW Unit}{p:List MemPlace}(ht:P.underlying t=some (.interface ms))(h:DataW.trod (fun _=>()) P W 0 (fun _=>true) false fuel t cs=some (.iface nm d,p)):∃u v,cs=[.iface u v]:=by
 cases fuel with
 |zero=>simp[DataW.trod]at h
 |succ n =>
  unfold DataW.trod at h;rw[ht]at h;split at h<;>simp_all
theorem qvw{laid:List (String×DataW Unit)}(h:laidMet P laid W){n nm:String}{d:DataW Unit}(hm:(n,.iface nm d)∈laid){g:Nat}(hg:P.globalNamed n=some g){t:TypeId}(ht:(P.globals[g]?).map (·.type)=some t){ms:Array (String×TypeId)}(hu:P.underlying t=some (.interface ms))(m:Nat) :
  (∃e,W.shape? g=some (e,1))∧∃f,At W (Live W) g 0 1 f∧RelD W (Live W) (.tok m) (mkV none f):=by
 obtain⟨cs,fuel,p,h1,h2,h3⟩:=qwd h hm hg ht;obtain⟨u,v,he⟩:=qJp hu h1;have hs:cs.size=1:=by rw[←Array.length_toList,he];rfl
 have hc:cs[0]'(by omega) = .iface u v:=by
  have:cs.toList[0]'(by rw[he];exact Nat.one_pos) = .iface u v:=by simp[he]
  simpa using this
 have h4:=h3 0 (by omega)
 rw[hc]at h4;have hsh:=h2 (by omega)
 rw[hs]at hsh;refine⟨hsh,fun _=>.iface u v,?_,?_⟩
 ·intro j hj;have:j=0:=by omega
  subst this;exact⟨h4,⟨_,h4⟩,rfl⟩
 ·exact .tok m u v
end
end
section
open Go.RowKit Go.WideShapes Go.ChangeShapes
section
variable {H : Type} {enc : TypeId × Value → H} {P : Program}
theorem qx1(hl:laidOutB P=true){W W':World}(hb:Below W.heap.size W W'):∀{ts:List TypeId} {vs:List Value} {ds:List (DataW H)} {ps:List MemPlace},
  (ts.all fun t=>P.readableRec t&&decide (t<P.types.size))=true→(∀x∈ps,x.block<W.heap.size) →
  DataW.TrodAll enc P W 0 (fun _=>true) true ts vs ds ps→DataW.TrodAll enc P W' 0 (fun b=>decide (b<W.heap.size)) true ts vs ds ps
 | [],[],[],ps,_,_,h=>h
 |t::ts,v::vs,d::ds,ps,hr,hlt,h=>by
  obtain⟨p,q,h1,h2,rfl⟩:=h;simp only[List.all_cons,zzf,zzq]at hr;exact⟨p,q,Below.trod hl hr.1.1 hr.1.2 h1 hb (fun x hx=>hlt x (List.mem_append_left _ hx)),qx1 hl hb (by simpa using hr.2) (fun x hx=>hlt x (List.mem_append_right _ hx)) h2,rfl⟩
 | [],[],_::_,_,_,_,h=>h.elim
 | [],_::_,_,_,_,_,h=>h.elim
 | _::_,[],_,_,_,_,h=>h.elim
 | _::_,_::_,[],_,_,_,h=>h.elim
theorem qBY{f:FuncId}{fn:Func}{s:ChangeSpec}{apart fresh handsOn:Bool}{W:World}{args:Array Value}{ds gs:List (DataW H)}{before:List MemPlace}{tb:TypeId}
  (hl:laidOutB P=true) (hpr:(fn.params.toList.all fun t=>P.readableRec t&&decide (t<P.types.size))=true) (hrt:fn.resultTypes = #[tb]) (htb:P.underlying tb=some .bool) (hv:s.vars=[])
  (hfn:(s.fn H (ds++gs)).results=[.lit (.bool true)]∧(s.fn H (ds++gs)).args=ds∧(s.fn H (ds++gs)).vars=[])
  (hW:DataW.Whole enc P fn.params.toList s.vars apart W args.toList ds gs before)
  (hc:Calls P f args W fun e W'=>e = .returned (.bool true)∧Below W.heap.size W W') :
  Calls P f args W fun e W'=>∃v,e = .returned v∧s.post enc P fn apart fresh handsOn false W args v W':=by
 refine hc.mono ?_;rintro e W' ⟨rfl,hb⟩;refine⟨_,rfl,?_⟩;have hlt:=hW.lt
 obtain⟨p,q,h1,h2,rfl,h4,h5⟩:=id hW;refine⟨ds,gs,p++q,[],p,[],hW,?_,?_,?_,hb.frame _,fun h=>by cases h⟩
 ·rw[hfn.1,hrt];exact⟨[],[],shut_bool htb true,rfl,rfl⟩
 ·rw[hfn.2.1];exact qx1 hl hb hpr (fun x hx=>hlt x (List.mem_append_left _ hx)) h1
 ·rw[hfn.2.2,hv];rfl
theorem qyS{ts:List TypeId}{ds:List (DataW H)}(h:(DataW.weightsEach P ts ds).all (fun n=>decide (n≤reachBytes))=true)(i:Nat){t:TypeId}{d:DataW H}(ht:ts[i]? = some t)(hd:ds[i]? = some d):Wts P t d:=by
 obtain⟨h1,rfl⟩:=zzk.1 ht;obtain⟨h2,rfl⟩:=zzk.1 hd;exact qtD (fun n hn=>by simpa using List.all_eq_true.1 h n hn) i h1 h2
theorem qt0{W:World}{r:Reach}{b0:Nat}{sp:Nat→Bool}{held:Bool}{t:TypeId}{v:Value}{d:DataW H}{ps:List MemPlace}{n:Nat}{ts:List Ty}{k:K}
  (hval:Value.okWide P W r b0 t v) (h:DataW.Trod enc P W 0 sp held t v d ps) (hw:Wts P t d) (ht:qh5 P n t=some ts) (hk:kq P t=some k) :
  ∃xs e,mkD k xs=some e∧qav ts xs∧RelD W (Live W) e v:=by
 obtain⟨fuel,h⟩:=h;have hc:=qz3 n h hw ht
 have one:∀{v:Value},CR W ts [v]→∃xs e,mkD none xs=some e∧qav ts xs∧RelD W (Live W) e v:=by
  intro v hc;obtain⟨xs,h1,h2,h3⟩:=hc.data;match xs,h2 with
  | [x],_=>exact⟨[x],x,rfl,h1,h3 0 (by simp) (by simp)⟩
 have many:∀{cs:Array Value},CR W ts cs.toList→kq P t=some (some (P.cellsOf t))→cs.size=P.cellsOf t→v = .agg cs→∃xs e,mkD k xs=some e∧qav ts xs∧RelD W (Live W) e v:=by
  intro cs hc hk' hn hv;obtain rfl:=Option.some.inj (hk.symm.trans hk');obtain⟨xs,h1,h2,h3⟩:=hc.data;refine⟨xs,.a xs,by simp[mkD,h2,hn],h1,?_⟩
  subst hv;obtain⟨cs⟩:=cs;exact .a xs cs h2 hc.flat h3
 unfold kq at hk many;unfold Value.okWide at hval;split at hval
 ·rename_i fs hu;obtain⟨cs,rfl,hn,-⟩:=hval;exact many (by simpa[Value.cells]using hc) (by rw[hu]) hn rfl
 ·rename_i m e hu;obtain⟨cs,rfl,hn,-⟩:=hval;exact many (by simpa[Value.cells]using hc) (by rw[hu]) hn rfl
 ·rename_i hns hna;split at hk
  ·rename_i fs hu;exact absurd hu (hns fs)
  ·rename_i m e hu;exact absurd hu (hna m e)
  ·split at hk
   ·cases hk;cases v with
    |agg cs =>
     exfalso
     unfold Cell.okWide Cell.ok at hval;split at hval<;>simp_all
    | _=>exact one (by simpa[Value.cells]using hc)
   ·cases hk
  ·cases hk
end
end
end Go.Sim
