/- Part 26 of the proof. -/
import Derived.Test.YtmaaepdecdhmnaaGreatDoorHB24
import Derived.Test.YtmaaepdecdhmnaaGreatDoorHB25
import Derived.Stop.Joined
set_option linter.all false
namespace Go.Sim
set_option maxRecDepth 100000
set_option maxHeartbeats 8000000
def qPQ{T:Tab}{f:Nat}{args:Cu}{H:CP}{r:PV×CP}(n:Nat)(h:(kN T n).it noY f args H=some r):T.ref f args H=some r:=(qqz T f args H r).2 ⟨n,by unfold qhs;rw[<-(qs7 T n).1];exact h⟩
def marksL:CF (Cv):=[[61,61],[33,61],[60,61],[123],[125],[40],[41],[44],[59],[58],[36],[43],[45],[42],[47],[60]]
def varsL:CF Au:=[⟨[98,97,108,97,110,99,101],2⟩,⟨[108,111,119,101,115,116],2⟩,⟨[118,111,108,117,109,101],2⟩,⟨[97,109,111,117,110,116],2⟩,⟨[99,111,117,110,116],1⟩,⟨[97,103,101],1⟩,⟨[100,97,121],4⟩]
def qFp:TA25Gm2.val 438 []=some (.d (.l K0 (wordsL.map DV.s) false),false):=qjY 400 (by kernel_rfl)
def qFo:TA25Gm2.val 435 []=some (.d (.l K0 (marksL.map DV.s) false),false):=qjY 400 (by kernel_rfl)
def hWx:HWd TA25Gm2:=⟨⟨false,false,qFp⟩,⟨marksL,false,false,qFo,by decide,by decide⟩⟩
def qFn:TA25Gm2.val 371 []=some (.d (.l (K1 2) (varsL.map Au.dv) false),true):=qjY 400 (by kernel_rfl)
def qFq:TA25Gm2.val 945 [.l (K1 2) (varsL.map Au.dv) false]=some (.d (I 0),false):=qjY 400 (by kernel_rfl)
def hVx:∃(vs:CF Au) (t o:CG),TA25Gm2.val 371 []=some (.d (.l (K1 2) (vs.map Au.dv) t),o)/\vs.length<=1000/\TA25Gm2.val 945 [.l (K1 2) (vs.map Au.dv) t]=some (.d (I 0),false):=⟨varsL,false,true,qFn,by decide,qFq⟩
def hAx:HA TA25Gm2:=qPQ 400 (by kernel_rfl)
def hCx:HC TA25Gm2:=⟨λds=>qvS _ rfl ds,λds=>qvS _ rfl ds,λds=>qvS _ rfl ds⟩
def qEG:tabU.All λn F=>TA25Gm2.F n=some F:=by repeat' first|exact trivial|refine⟨rfl,?_,?_⟩
def h0:HU TA25Gm2:=λ_ _ h=>PT.BJ h qEG
def qEH:tabV.All λn F=>TA25Gm2.F n=some F:=by repeat' first|exact trivial|refine⟨rfl,?_,?_⟩
def h1:HV TA25Gm2:=λ_ _ h=>PT.BJ h qEH
def qEI:tabT.All λn F=>TA25Gm2.F n=some F:=by repeat' first|exact trivial|refine⟨rfl,?_,?_⟩
def h2:HT TA25Gm2:=λ_ _ h=>PT.BJ h qEI
def qEJ:tabS.All λn F=>TA25Gm2.F n=some F:=by repeat' first|exact trivial|refine⟨rfl,?_,?_⟩
def h3:HS TA25Gm2:=λ_ _ h=>PT.BJ h qEJ
def qEK:tabP.All λn F=>TA25Gm2.F n=some F:=by repeat' first|exact trivial|refine⟨rfl,?_,?_⟩
def h4:HP TA25Gm2:=λ_ _ h=>PT.BJ h qEK
def qEL:tabN.All λn F=>TA25Gm2.F n=some F:=by repeat' first|exact trivial|refine⟨rfl,?_,?_⟩
def h5:HN TA25Gm2:=λ_ _ h=>PT.BJ h qEL
def qEM:tabQ.All λn F=>TA25Gm2.F n=some F:=by repeat' first|exact trivial|refine⟨rfl,?_,?_⟩
def h6:HQ TA25Gm2:=λ_ _ h=>PT.BJ h qEM
def qEN:tabF25.All λn F=>TA25Gm2.F n=some F:=by repeat' first|exact trivial|refine⟨rfl,?_,?_⟩
def h7:HF5 TA25Gm2:=λ_ _ h=>PT.BJ h qEN
def qEO:tabG25.All λn F=>TA25Gm2.F n=some F:=by repeat' first|exact trivial|refine⟨rfl,?_,?_⟩
def h8:HGd TA25Gm2:=λ_ _ h=>PT.BJ h qEO
def hIx:HI TA25Gm2:=λargs H=>qBW _ rfl args H
def qG6:HI2 TA25Gm2:=λargs H=>qBW _ rfl args H
def qG5:HAll TA25Gm2:=⟨⟨h2,h0,h1,hCx,hWx,hAx,hVx⟩,h6,h5,hIx,h7⟩
def qJq(b:Ap)(hb:b.ok)(ht:qaA Ap.ty b.cells)(e:Af)(he:e.ok):TA25Gm2.val 1089 [b.dv,e.dv]=some (.d (.b true),false):=qJp TA25Gm2 qG5 h3 h4 (qG7 TA25Gm2 h3 h0 h4) qG6 h8 qEZ b hb ht e he
section
open Go.RowKit
section
variable {P:CO}{W:CL}
def qQ3{t:CK}{ms:Array (String×CK)}{cs:CF CJ}{fuel:Nat}{nm:String}{d:DataW Unit}{p:CF MemPlace}(ht:P.underlying t=some (.interface ms))(h:DataW.trod (λ_=>()) P W 0 (λ_=>true) false fuel t cs=some (.iface nm d,p)):∃u v,cs=[.iface u v]:=by
 cases fuel with
 |zero=>simp[DataW.trod]at h
 |succ n=>
  unfold DataW.trod at h;rw[ht]at h;split at h<;>simp_all
def qyF{laid:CF (String×DataW Unit)}(h:laidMet P laid W){n nm:String}{d:DataW Unit}(hm:(n,.iface nm d)∈laid){g:Nat}(hg:P.globalNamed n=some g){t:CK}(ht:(P.globals[g]?).map (·.type)=some t){ms:Array (String×CK)}(hu:P.underlying t=some (.interface ms))(m:Nat) :
  (∃e,W.shape? g=some (e,1))/\∃f,At W (Live W) g 0 1 f/\Al W (Live W) (.tok m) (mkV none f):=by
 obtain⟨cs,fuel,p,h1,h2,h3⟩:=qAa h hm hg ht;obtain⟨u,v,he⟩:=qQ3 hu h1;have hs:cs.size=1:=by rw[<-Array.length_toList,he];rfl
 have hc:cs[0]'(by omega)=.iface u v:=by
  have:cs.toList[0]'(by rw[he];exact Nat.one_pos)=.iface u v:=by simp[he]
  simpa using this
 have h4:=h3 0 (by omega)
 rw[hc]at h4;have hsh:=h2 (by omega)
 rw[hs]at hsh;refine⟨hsh,λ_=>.iface u v,?_,?_⟩
 ·intro j hj;have:j=0:=by omega
  subst this;exact⟨h4,⟨_,h4⟩,rfl⟩
 ·exact .tok m u v
end
end
section
open Go.RowKit Go.WideShapes Go.ChangeShapes
section
variable {H:Type}{enc:CK × CJ->H}{P:CO}
def qCX(hl:laidOutB P=true){W W':CL}(hb:Below W.heap.size W W'):∀{ts:CF CK} {vs:CF CJ} {ds:CF (DataW H)} {ps:CF MemPlace},
  (ts.all λt=>P.readableRec t&&decide (t<P.types.size))=true->(∀x∈ps,x.block<W.heap.size)->
  DataW.TrodAll enc P W 0 (λ_=>true) true ts vs ds ps->DataW.TrodAll enc P W' 0 (λb=>decide (b<W.heap.size)) true ts vs ds ps
 |[],[],[],ps,_,_,h=>h
 |t::ts,v::vs,d::ds,ps,hr,hlt,h=>by
  obtain⟨p,q,h1,h2,rfl⟩:=h;simp only[List.all_cons,zzf,zzq]at hr;exact⟨p,q,Below.trod hl hr.1.1 hr.1.2 h1 hb (λx hx=>hlt x (List.mem_append_left _ hx)),qCX hl hb (by simpa using hr.2) (λx hx=>hlt x (List.mem_append_right _ hx)) h2,rfl⟩
 |[],[],_::_,_,_,_,h=>h.elim
 |[],_::_,_,_,_,_,h=>h.elim
 |_::_,[],_,_,_,_,h=>h.elim
 |_::_,_::_,[],_,_,_,h=>h.elim
def qJs{f:FuncId}{fn:Func}{s:ChangeSpec}{apart fresh handsOn:CG}{W:CL}{args:Array CJ}{ds gs:CF (DataW H)}{before:CF MemPlace}{tb:CK}
  (hl:laidOutB P=true) (hpr:(fn.params.toList.all λt=>P.readableRec t&&decide (t<P.types.size))=true) (hrt:fn.resultTypes = #[tb]) (htb:P.underlying tb=some .bool) (hv:s.vars=[])
  (hfn:(s.fn H (ds++gs)).results=[.lit (.bool true)]/\(s.fn H (ds++gs)).args=ds/\(s.fn H (ds++gs)).vars=[])
  (hW:DataW.Whole enc P fn.params.toList s.vars apart W args.toList ds gs before)
  (hc:Calls P f args W λe W'=>e=.returned (.bool true)/\Below W.heap.size W W') :
  Calls P f args W λe W'=>∃v,e=.returned v/\s.post enc P fn apart fresh handsOn false W args v W':=by
 refine hc.mono ?_;rintro e W' ⟨rfl,hb⟩;refine⟨_,rfl,?_⟩;have hlt:=hW.lt
 obtain⟨p,q,h1,h2,rfl,h4,h5⟩:=id hW;refine⟨ds,gs,p++q,[],p,[],hW,?_,?_,?_,hb.frame _,λh=>by cases h⟩
 ·rw[hfn.1,hrt];exact⟨[],[],shut_bool htb true,rfl,rfl⟩
 ·rw[hfn.2.1];exact qCX hl hb hpr (λx hx=>hlt x (List.mem_append_left _ hx)) h1
 ·rw[hfn.2.2,hv];rfl
def qDD{ts:CF CK}{ds:CF (DataW H)}(h:(DataW.weightsEach P ts ds).all (λn=>decide (n<=reachBytes))=true)(i:Nat){t:CK}{d:DataW H}(ht:ts[i]? = some t)(hd:ds[i]? = some d):Wts P t d:=by
 obtain⟨h1,rfl⟩:=zzk.1 ht;obtain⟨h2,rfl⟩:=zzk.1 hd;exact qvZ (λn hn=>by simpa using List.all_eq_true.1 h n hn) i h1 h2
def qwL{W:CL}{r:Reach}{b0:Nat}{sp:Nat->CG}{held:CG}{t:CK}{v:CJ}{d:DataW H}{ps:CF MemPlace}{n:Nat}{ts:CF Ty}{k:K}
  (hval:Value.okWide P W r b0 t v) (h:DataW.Trod enc P W 0 sp held t v d ps) (hw:Wts P t d) (ht:qhD P n t=some ts) (hk:kq P t=some k) :
  ∃xs e,mkD k xs=some e/\qaA ts xs/\Al W (Live W) e v:=by
 obtain⟨fuel,h⟩:=h;have hc:=qFU n h hw ht
 have one:∀{v:CJ},CR W ts [v]->∃xs e,mkD none xs=some e/\qaA ts xs/\Al W (Live W) e v:=by
  intro v hc;obtain⟨xs,h1,h2,h3⟩:=hc.data;match xs,h2 with
  |[x],_=>exact⟨[x],x,rfl,h1,h3 0 (by simp) (by simp)⟩
 have many:∀{cs:Array CJ},CR W ts cs.toList->kq P t=some (some (P.cellsOf t))->cs.size=P.cellsOf t->v=.agg cs->∃xs e,mkD k xs=some e/\qaA ts xs/\Al W (Live W) e v:=by
  intro cs hc hk' hn hv;obtain rfl:=Option.some.inj (hk.symm.trans hk');obtain⟨xs,h1,h2,h3⟩:=hc.data;refine⟨xs,.a xs,by simp[mkD,h2,hn],h1,?_⟩
  subst hv;obtain⟨cs⟩:=cs;exact .a xs cs h2 hc.flat h3
 unfold kq at hk many;unfold Value.okWide at hval;split at hval
 ·rename_i fs hu;obtain⟨cs,rfl,hn,-⟩:=hval;exact many (by simpa[Value.cells]using hc) (by rw[hu]) hn rfl
 ·rename_i m e hu;obtain⟨cs,rfl,hn,-⟩:=hval;exact many (by simpa[Value.cells]using hc) (by rw[hu]) hn rfl
 ·rename_i hns hna;split at hk
  ·rename_i fs hu;exact absurd hu (hns fs)
  ·rename_i m e hu;exact absurd hu (hna m e)
  ·split at hk
   ·cases hk;cases v with
    |agg cs=>
     exfalso
     unfold Cell.okWide Cell.ok at hval;split at hval<;>simp_all
    |_=>exact one (by simpa[Value.cells]using hc)
   ·cases hk
  ·cases hk
