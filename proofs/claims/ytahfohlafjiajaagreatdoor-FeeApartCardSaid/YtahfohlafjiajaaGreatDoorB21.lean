/- Part 21 of the proof: CbZ7. -/
import Derived.Test.YtahfohlafjiajaaGreatDoorB19
import Derived.Test.YtahfohlafjiajaaGreatDoorB20
section
open Go.Sim
attribute [local simp ↓] qc5 qdh qeT qdn qeR qe6 qem qe4 sqK blK lpK qdj qe0 qeU qdX qe1 qdI qeH qdC qeg qds qd7 qdT qew qee qdM qdY qeM qc9 qdO qdp qe5 qdV qda qen qdH qeX qdP qec qeh qef qeV qdR qdU qdo qeC qdF qdy qck qcw qes qdc qeE qc3 qeN qdg qc4 qdu qei qdq qd8 qeK qcR qe8 qcU qdz qdw qd1 qel qdi qeS qek qex qdd qeq qdm qcQ qcZ qet qeP qcz qe9 qc1 qcP qeA qcl qd6 qd2 qeB qey qdE qeJ qed qej qc7 qdN qdD qeu qdK qdQ qfa qfe qfT qfI qfZ qfS qf1 qfW qfK qfV qfU qfO qfR qgI qfF
attribute [local simp] qci qdf qep qdx qd5 qd3 qdA qd4 qdv qeO qdk rd IOp.adds qan gh nid rgK rdS qeo qdB qdb qdZ qc6 qeL qdL qdl qe7 qdr qdt qev qeQ qde qeW qeb qeY qe2 qeF qeG qd0 qfj qfr qfk qcp qfn qfh qfo qfM qfN qf2 qf3
namespace Go.Sim
set_option maxRecDepth 10000
set_option maxHeartbeats 4000000
theorem qyn (T:Tab) (b:ABooks) (tt:Bool) (i d ev am:Int) (ps:List AProduct) (hn:ps.length≤1000) (hf : ∀p∈ps,p.Fees.l.length≤1000) (e:Int) (L:List DV) (tL:Bool) {k:KC (PV×Bool)} {r:Option (PV×Bool)} {fr:Fr} {H:Heap}
  (he:k (.exit 0) [(40,.d (.b false)),(8,.d (I ps.length)),(7,.p 0 0 0),(6,.d (I e)),(5,.d (.l (K1 2) L tL)),(3,.p 2 0 0)] [some (.box (K1 22) (bkC b ps.length tt 1)),some (.sl (K1 19) 0 ((ps.map (qb5 ev)).map AProduct.dv)),some (.box (K1 4) (.d (.a [I i,I d,I ev,I am])))]=r)
  (h0:gc [3,5,6,7,8] 0 ⟨fr,H⟩=⟨[(8,.d (I 0)),(7,.p 0 0 0),(6,.d (I e)),(5,.d (.l (K1 2) L tL)),(3,.p 2 0 0)],[some (.box (K1 22) (bkC b ps.length tt 1)),some (.sl (K1 19) 0 (ps.map AProduct.dv)),some (.box (K1 4) (.d (.a [I i,I d,I ev,I am])))]⟩) :
  kC T.env 0 fr H (.h (.loop [3,5,6,7,8] qmg,k))=r:=by
 refine qcW (fun j:Nat=>⟨[(8,.d (I j)),(7,.p 0 0 0),(6,.d (I e)),(5,.d (.l (K1 2) L tL)),(3,.p 2 0 0)],[some (.box (K1 22) (bkC b ps.length tt 1)),some (.sl (K1 19) 0 (((ps.take j).map (qb5 ev)++ps.drop j).map AProduct.dv)),some (.box (K1 4) (.d (.a [I i,I d,I ev,I am])))]⟩) (fun j=>j≤ps.length) (fun j=>ps.length-j) ?_ 0 (Nat.zero_le _) (by rw[h0];rfl)
 rintro B-j hj hx;by_cases hlt:j<ps.length
 ·have h1:(j:Int)<ps.length:=by omega
  have h3:IntKind.i64.wrap ((j:Int)+1)=(j:Int)+1:=wrI (by omega) (by omega)
  have hx':=hx (j+1) (by omega) (by omega)
  obtain⟨p,hp⟩ : ∃p,ps[j]=p:=⟨_,rfl⟩;have hpm:p∈ps:=by rw[←hp];exact zzs hlt
  have hq:((ps.take j).map (qb5 ev)++ps.drop j).map AProduct.dv=((ps.take j).map (qb5 ev)).map AProduct.dv++p.dv::(ps.drop (j+1)).map AProduct.dv:=by
   rw[List.map_append,List.drop_eq_getElem_cons hlt,hp];rfl
  have hq2:((ps.take (j+1)).map (qb5 ev)++ps.drop (j+1)).map AProduct.dv=((ps.take j).map (qb5 ev)).map AProduct.dv++(qb5 ev p).dv::(ps.drop (j+1)).map AProduct.dv:=by
   rw[List.map_append,List.take_succ_eq_append_getElem hlt,List.map_append,List.map_append,hp];simp
  rw[hq2] at hx';rw[hq];have ha:(((ps.take j).map (qb5 ev)).map AProduct.dv).length=j:=by simp;omega
  have hD:((ps.drop (j+1)).map AProduct.dv).length=ps.length-(j+1):=by simp
  generalize ((ps.take j).map (qb5 ev)).map AProduct.dv=A at *
  generalize (ps.drop (j+1)).map AProduct.dv=D at *
  have g1:(A++p.dv::D)[j]? = some p.dv:=by rw[List.getElem?_append_right (by omega),ha];simp
  have g2 : ∀y,(A++p.dv::D).set j y=A++y::D:=fun y=>by rw[List.set_append_right _ _ (by omega),ha];simp
  have g3:ps.length≤A.length+(D.length+1):=by omega
  have lp:=fun k r fr H => @qCX T b ps.length tt (A++p.dv::D) i d ev am p.Fees.l p.Fees.t (hf p hpm) j e L tL k r fr H
  have s17 : ∀q:DV→Option (PV×Bool),bo (qfb (K1 19) p.dv 17 K0) (.h q)=q (.l (K1 10) (p.Fees.l.map AFee.dv) p.Fees.t):=fun _=>rfl
  have m17 : ∀(es:List DV) (t:Bool) (q:DV→Option (PV×Bool)),bo (mkD (K1 19) (putAt p.dv.cells 17 [.l (K1 10) es t])) (.h q)=q (.a (putAt p.dv.cells 17 [.l (K1 10) es t])):=fun _ _ _=>rfl
  have hs : ∀o,o=(p.Fees.l.filter (qbN ev)).map AFee.dv→DV.a (putAt p.dv.cells 17 [.l (K1 10) o o.isEmpty])=(qb5 ev p).dv:=by
   intro o ho;subst ho;have:((p.Fees.l.filter (qbN ev)).map AFee.dv).isEmpty=(p.Fees.l.filter (qbN ev)).isEmpty:=by cases p.Fees.l.filter (qbN ev)<;>rfl
   rw[this];rfl
  simp[qmg,h1,hlt,g1,g3,↓qll,↓qhS,↓qh0,↓s17];refine lp _ _ _ _ (fun o ho => ?_) (by simp[gc,Fr.keep,qae,qac,qab,PV.refs,PV.refsL,qad,gcH,qaf,Obj.refs,PV.ren,PV.renL,Obj.ren,Heap.obj,Fr.ren,gh,zzd,hI,qg8,qgX])
  have hs':=hs o ho
  cases o with
  |nil =>
   simp only[qav,pB,hI];simp only[List.isEmpty_nil] at hs';simp[h1,hlt,g1,g2,g3,h3,hs',↓qll,↓qhS,-qcl,↓qkJ,↓qlg,↓qjw,↓qh0,qcY,↓m17,qas,qat,qgk];exact hx' _ _ (by simp[gc,Fr.keep,qae,qac,qab,PV.refs,PV.refsL,qad,gcH,qaf,Obj.refs,PV.ren,PV.renL,Obj.ren,Heap.obj,Fr.ren,gh,zzd,h3,qg8,qgX])
  |cons x o =>
   have ht:o.take o.length=o:=List.take_of_length_le (by simp)
   simp only[qav,pB,hI];simp only[List.isEmpty_cons] at hs';simp[h1,hlt,g1,g2,g3,h3,ht,hs',↓qll,↓qhS,-qcl,↓qkJ,↓qlg,↓qjw,↓qh0,qcY,↓m17,qas,qat,qgk,pur,qbO,frz,qfd];exact hx' _ _ (by simp[gc,Fr.keep,qae,qac,qab,PV.refs,PV.refsL,qad,gcH,qaf,Obj.refs,PV.ren,PV.renL,Obj.ren,Heap.obj,Fr.ren,gh,zzd,h3,qg8,qgX])
 ·have:j=ps.length:=by omega
  subst this;rw[List.take_length,List.drop_length,List.append_nil];have hQ:((ps.map (qb5 ev)).map AProduct.dv).length=ps.length:=by simp
  generalize (ps.map (qb5 ev)).map AProduct.dv=Q at *
  have hQ':ps.length≤Q.length:=by omega
  have h1 : ¬((ps.length:Int)<ps.length):=by omega
  simp[qmg,↓qll,hQ'];exact he
theorem qAA {b:ABooks} (hg:qht b=false):(∀p∈b.Products.l,p.Fees.l.length≤1000)∧b.Products.l.length≤1000:=by
 have hg':=hg
 simp only[qht,Bool.or_eq_false_iff,decide_eq_false_iff_not] at hg';refine⟨fun p hp => ?_,by omega⟩
 have h1:b.Products.l.any qcV=false:=by
  rcases hb:b.Products.l.any qcV with _|_
  ·rfl
  ·exfalso;simp[qht,hb] at hg
 have h2:qcV p=false:=by
  have:=List.any_eq_false.1 h1 p hp
  simpa using this
 simp only[qcV,Bool.or_eq_false_iff,decide_eq_false_iff_not] at h2;omega
theorem qyw (b:ABooks) (tt:Bool) (n:Nat) (Q:List DV) (hn:n=Q.length) (x y:Option Obj):pur [x,some (.sl (K1 19) 0 Q),y] (bkC b n tt 1)=some (DV.a (b.dv.cells.set 17 (.l (K1 19) Q false)),[1]):=by
 subst hn;simp[bkC,ABooks.dv,qbR,pur,qcA,qbO,Heap.obj]
theorem qrf (b:ABooks) (tt:Bool) (n:Nat) (Q:List DV) (hn:n=Q.length) (x y:Option Obj) (p q r s:DV):qa7 [x,some (.sl (K1 19) 0 Q),y] [bkC b n tt 1,.d p,.d q,.d r,.d s]=some ([DV.a (b.dv.cells.set 17 (.l (K1 19) Q false)),p,q,r,s],[1]):=by
 rw[qa7,qyw b tt n Q hn];simp[qa7,pur,qbO]
theorem qzs (ev:Int) (b:ABooks):DV.a (b.dv.cells.set 17 (.l (K1 19) ((b.Products.l.map (qb5 ev)).map AProduct.dv) false))=(qgz ev false b).dv:=rfl
theorem qzk (T:Tab) (h:HEv T) (h8:H8 T) (hc:HCl T 956 (K1 4) 56) (hl:T.val 1123 []=some (.d (.b true),false)) (b:ABooks) (hb:b.ok) (i d ev am:Int) :
  T.val 1122 [b.dv,.a [I i,I d,I ev,I am]]=some (.d (.b true),false):=by
 have e0:=qv9 T h.hU b hb
 rw[qag T (h8 1122 qhx rfl) rfl];by_cases hg:qht b=true
 ·rw[hg] at e0;simp[qhx,Fr.ofArgs,e0,hl]
 have hg':qht b=false:=by simpa using hg
 rw[hg'] at e0;obtain⟨hf,hpl⟩:=qAA hg';have e1:=qra T h h8 hc b hb hf i d ev am
 have e2:=qra T h h8 hc (qgz ev false b) (qEW hb) (fun p hp=>by
  obtain⟨q,hq,rfl⟩:=List.mem_map.1 hp;exact Nat.le_trans (List.length_filter_le _ q.Fees.l) (hf q hq)) i d ev am
 simp only[qw9] at e2;have hch:=qBe T b i d ev am
 have hlen:=qAr T b hf i d ev am
 generalize hdu:qfP T b i d ev am=du at *
 obtain⟨L,e⟩:=du;simp only at e1 e2 hch hlen;generalize L.isEmpty=tL at *
 have e3:=fun s t=>qCa T h8 L hch hlen s t
 have hz:qhx=qhx:=rfl
 conv at hz=>rhs;unfold qhx
 generalize (DV.a [(.l (K1 2) [] true),(.l (K1 3) [] true),(.l (K1 4) [] true),(I 0),(I 0),(I 0),(I 0),(I 0),(I 0),(I 0),(I 0),(I 0),(I 0),(I 0),(I 0),(I 0),(I 0),(.l (K1 19) [] true),(.l (K1 7) [] true),(.l (K1 10) [] true),(.l (K1 6) [] true),(.l (K1 7) [] true)])=z at hz;rw[hz];have c18:18≤(PV.d b.dv).cells.length:=by
  show 18≤22
  decide
 have mk17 : ∀(r n:Nat) (tt:Bool) (q:PV→Option (PV×Bool)),bo (mkP (K1 22) (putAt (PV.d b.dv).cells 17 (PV.cells (.r r (K1 19) 0 n tt)))) (.h q)=q (bkC b n tt r):=fun _ _ _ _=>rfl
 have sdv:=qzs ev b
 have lp:=fun tt k r fr H => @qyn T b tt i d ev am b.Products.l hpl hf e L tL k r fr H
 have hQ:b.Products.l.length=((b.Products.l.map (qb5 ev)).map AProduct.dv).length:=by simp
 cases hps:b.Products.l with
 |nil =>
  rw[hps] at lp sdv hQ;simp[Fr.ofArgs,e0,e1,hps,qgk,qcY,qas,qat,↓qmE,↓qlv,qhk,qhf,qbR];rw[qCp rfl];simp[qgk,qcY,qas,qat,qhk,qhf,c18,↓mk17];refine lp true _ _ _ _ ?_ (by simp[gc,Fr.keep,qae,qac,qab,PV.refs,PV.refsL,qad,gcH,qaf,Obj.refs,PV.ren,PV.renL,Obj.ren,Heap.obj,Fr.ren,gh,zzd,qg8,qgX])
  generalize List.map AProduct.dv (List.map (qb5 ev) [])=Q at *
  simp only[zzn,List.length_nil] at hQ;have hpu:=fun tt=>qrf b tt _ Q hQ
  simp[hpu,sdv,e2,e3,hl,PV.scal,PV.scal1,DV.scal,DV.scal1,qbR,frz,qfd]
 |cons p ps =>
  have g1:(ps.length+1)*240≤140737488355328:=by rw[hps,zzn] at hpl;omega
  rw[hps] at lp sdv hQ;simp[Fr.ofArgs,e0,e1,hps,g1,qgk,qcY,qas,qat,qhk,qhf,qbR,c18,↓mk17];refine lp false _ _ _ _ ?_ (by simp[gc,Fr.keep,qae,qac,qab,PV.refs,PV.refsL,qad,gcH,qaf,Obj.refs,PV.ren,PV.renL,Obj.ren,Heap.obj,Fr.ren,gh,zzd,qg8,qgX])
  generalize List.map AProduct.dv (List.map (qb5 ev) (p::ps))=Q at *
  simp only[zzn,List.length_nil] at hQ;have hpu:=fun tt=>qrf b tt _ Q hQ
  simp[hpu,sdv,e2,e3,hl,PV.scal,PV.scal1,DV.scal,DV.scal1,qbR,frz,qfd]
end Go.Sim

end
