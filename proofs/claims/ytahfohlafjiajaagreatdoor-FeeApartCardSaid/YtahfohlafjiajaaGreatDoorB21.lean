/- Part 21 of the proof: CbZ7. -/
import Derived.Test.YtahfohlafjiajaaGreatDoorB19
import Derived.Test.YtahfohlafjiajaaGreatDoorB20
section
open Go.Sim
attribute [local simp ↓] qeM qdM qez qd6 qdv qdm qdx qeN sqK blK lpK qdb qdj qe9 qeH qeo qdC qeh qdo qdw qe0 qc7 qeP qdd qeE qd3 qeS qeB qeQ qd1 qdJ qec qeL qdg qfa qc9 qdS qdP qef qdV qe5 qe7 qdt qeG qeV qd7 qei qeu qco qcD qdL qdW qep qcL qey qdA qcT qej qdu qdf qdl qdB qc1 qdi qcX qda qdF qeU qex qdK qdE qe8 qc8 qet qeO qdn qcO qc0 qd2 qdh qcw qen qcZ qc2 qdO qcj qeY qeW qeZ qew qdU qeF qe3 qdk qdy qdq qe4 qd9 qdI qds qee qfd qfQ qfM qf1 qfV qfO qf3 qfZ qfU qfJ qfY qfP qgJ qfu
attribute [local simp] qcf qdH qea qdG qev qel qc5 qe1 qd0 qdT qeC rd IOp.adds qan gh nid rgK rdS qe6 qdD qdZ qdQ qdY qeT qdc qdp qdz qeD qd4 qer qeq qdN qc6 qeA qes qek qem qdR qe2 qff qfb qfi qcl qfn qfh qfm qfR qfK qfS qfL
namespace Go.Sim
set_option maxRecDepth 10000
set_option maxHeartbeats 4000000
theorem qv3 (T:Tab) (b:ABooks) (tt:Bool) (i d ev am:Int) (ps:List AProduct) (hn:ps.length≤1000) (hf : ∀p∈ps,p.Fees.l.length≤1000) (e:Int) (L:List DV) (tL:Bool) {k:KC (PV×Bool)} {r:Option (PV×Bool)} {fr:Fr} {H:Heap}
  (he:k (.exit 0) [(40,.d (.b false)),(8,.d (I ps.length)),(7,.p 0 0 0),(6,.d (I e)),(5,.d (.l (K1 2) L tL)),(3,.p 2 0 0)] [some (.box (K1 22) (bkC b ps.length tt 1)),some (.sl (K1 19) 0 ((ps.map (qb5 ev)).map AProduct.dv)),some (.box (K1 4) (.d (.a [I i,I d,I ev,I am])))]=r)
  (h0:gc [3,5,6,7,8] 0 ⟨fr,H⟩=⟨[(8,.d (I 0)),(7,.p 0 0 0),(6,.d (I e)),(5,.d (.l (K1 2) L tL)),(3,.p 2 0 0)],[some (.box (K1 22) (bkC b ps.length tt 1)),some (.sl (K1 19) 0 (ps.map AProduct.dv)),some (.box (K1 4) (.d (.a [I i,I d,I ev,I am])))]⟩) :
  kC T.env 0 fr H (.h (.loop [3,5,6,7,8] qmm,k))=r:=by
 refine qcN (fun j:Nat=>⟨[(8,.d (I j)),(7,.p 0 0 0),(6,.d (I e)),(5,.d (.l (K1 2) L tL)),(3,.p 2 0 0)],[some (.box (K1 22) (bkC b ps.length tt 1)),some (.sl (K1 19) 0 (((ps.take j).map (qb5 ev)++ps.drop j).map AProduct.dv)),some (.box (K1 4) (.d (.a [I i,I d,I ev,I am])))]⟩) (fun j=>j≤ps.length) (fun j=>ps.length-j) ?_ 0 (Nat.zero_le _) (by rw[h0];rfl)
 rintro B-j hj hx;by_cases hlt:j<ps.length
 ·have h1:(j:Int)<ps.length:=by omega
  have h3:IntKind.i64.wrap ((j:Int)+1)=(j:Int)+1:=wrI (by omega) (by omega)
  have hx':=hx (j+1) (by omega) (by omega)
  obtain⟨p,hp⟩ : ∃p,ps[j]=p:=⟨_,rfl⟩;have hpm:p∈ps:=by rw[←hp];exact zzs hlt
  have hq:((ps.take j).map (qb5 ev)++ps.drop j).map AProduct.dv=((ps.take j).map (qb5 ev)).map AProduct.dv++p.dv::(ps.drop (j+1)).map AProduct.dv:=by
   rw[List.map_append,List.drop_eq_getElem_cons hlt,hp];rfl
  have hq2:((ps.take (j+1)).map (qb5 ev)++ps.drop (j+1)).map AProduct.dv=((ps.take j).map (qb5 ev)).map AProduct.dv++(qb5 ev p).dv::(ps.drop (j+1)).map AProduct.dv:=by
   rw[List.map_append,List.take_succ_eq_append_getElem hlt,List.map_append,List.map_append,hp];simp
  rw[hq2] at hx';rw[hq];have ha:(((ps.take j).map (qb5 ev)).map AProduct.dv).length=j:=by simp;omega
  have hD:((ps.drop (j+1)).map AProduct.dv).length=ps.length-(j+1):=by simp
  generalize ((ps.take j).map (qb5 ev)).map AProduct.dv=A at *
  generalize (ps.drop (j+1)).map AProduct.dv=D at *
  have g1:(A++p.dv::D)[j]? = some p.dv:=by rw[List.getElem?_append_right (by omega),ha];simp
  have g2 : ∀y,(A++p.dv::D).set j y=A++y::D:=fun y=>by rw[List.set_append_right _ _ (by omega),ha];simp
  have g3:ps.length≤A.length+(D.length+1):=by omega
  have lp:=fun k r fr H => @qwg T b ps.length tt (A++p.dv::D) i d ev am p.Fees.l p.Fees.t (hf p hpm) j e L tL k r fr H
  have s17 : ∀q:DV→Option (PV×Bool),bo (qfo (K1 19) p.dv 17 K0) (.h q)=q (.l (K1 10) (p.Fees.l.map AFee.dv) p.Fees.t):=fun _=>rfl
  have m17 : ∀(es:List DV) (t:Bool) (q:DV→Option (PV×Bool)),bo (mkD (K1 19) (putAt p.dv.cells 17 [.l (K1 10) es t])) (.h q)=q (.a (putAt p.dv.cells 17 [.l (K1 10) es t])):=fun _ _ _=>rfl
  have hs : ∀o,o=(p.Fees.l.filter (qbN ev)).map AFee.dv→DV.a (putAt p.dv.cells 17 [.l (K1 10) o o.isEmpty])=(qb5 ev p).dv:=by
   intro o ho;subst ho;have:((p.Fees.l.filter (qbN ev)).map AFee.dv).isEmpty=(p.Fees.l.filter (qbN ev)).isEmpty:=by cases p.Fees.l.filter (qbN ev)<;>rfl
   rw[this];rfl
  simp[qmm,h1,g1,g3,↓qmi,↓qin,↓s17];refine lp _ _ _ _ (fun o ho => ?_) (by simp[gc,Fr.keep,qae,qac,qab,PV.refs,qad,gcH,qag,Obj.refs,PV.ren,Obj.ren,Heap.obj,Fr.ren,gh,zzd,hI,qg0,qg9])
  have hs':=hs o ho
  cases o with
  |nil =>
   simp only[qav,pB,hI];simp only[List.isEmpty_nil] at hs';simp[h1,g1,g2,g3,h3,hs',↓qmi,↓qin,-qcj,↓qjQ,↓qkQ,qcS,↓m17,qas];exact hx' _ _ (by simp[gc,Fr.keep,qae,qac,qab,PV.refs,qad,gcH,qag,Obj.refs,PV.ren,Obj.ren,Heap.obj,Fr.ren,gh,zzd,qg0,qg9])
  |cons x o =>
   have ht:o.take o.length=o:=List.take_of_length_le (by simp)
   simp only[qav,pB,hI];simp only[List.isEmpty_cons] at hs';simp[h1,g1,g2,g3,h3,ht,hs',↓qmi,↓qin,-qcj,↓qjQ,↓qkQ,qcS,↓m17,qas,qf7,pur,qbO,frz,qfp];exact hx' _ _ (by simp[gc,Fr.keep,qae,qac,qab,PV.refs,qad,gcH,qag,Obj.refs,PV.ren,Obj.ren,Heap.obj,Fr.ren,gh,zzd,qg0,qg9])
 ·have:j=ps.length:=by omega
  subst this;rw[List.take_length,List.drop_length,List.append_nil];have hQ:((ps.map (qb5 ev)).map AProduct.dv).length=ps.length:=by simp
  generalize (ps.map (qb5 ev)).map AProduct.dv=Q at *
  have hQ':ps.length≤Q.length:=by omega
  have h1 : ¬((ps.length:Int)<ps.length):=by omega
  simp[qmm,↓qmi,hQ'];exact he
theorem qBh {b:ABooks} (hg:qhl b=false):(∀p∈b.Products.l,p.Fees.l.length≤1000)∧b.Products.l.length≤1000:=by
 have hg':=hg
 simp only[qhl,Bool.or_eq_false_iff,decide_eq_false_iff_not] at hg';refine⟨fun p hp => ?_,by omega⟩
 have h1:b.Products.l.any qcR=false:=by
  rcases hb:b.Products.l.any qcR with _|_
  ·rfl
  ·exfalso;simp[qhl,hb] at hg
 have h2:qcR p=false:=by
  have:=List.any_eq_false.1 h1 p hp
  simpa using this
 simp only[qcR,Bool.or_eq_false_iff,decide_eq_false_iff_not] at h2;omega
theorem qAz (b:ABooks) (tt:Bool) (n:Nat) (Q:List DV) (hn:n=Q.length) (x y:Option Obj):pur [x,some (.sl (K1 19) 0 Q),y] (bkC b n tt 1)=some (DV.a (b.dv.cells.set 17 (.l (K1 19) Q false)),[1]):=by
 subst hn;simp[bkC,ABooks.dv,qbR,pur,qcC,qbO,Heap.obj]
theorem qsJ (b:ABooks) (tt:Bool) (n:Nat) (Q:List DV) (hn:n=Q.length) (x y:Option Obj) (p q r s:DV):qbb [x,some (.sl (K1 19) 0 Q),y] [bkC b n tt 1,.d p,.d q,.d r,.d s]=some ([DV.a (b.dv.cells.set 17 (.l (K1 19) Q false)),p,q,r,s],[1]):=by
 rw[qbb,qAz b tt n Q hn];simp[qbb,pur,qbO]
theorem qw3 (ev:Int) (b:ABooks):DV.a (b.dv.cells.set 17 (.l (K1 19) ((b.Products.l.map (qb5 ev)).map AProduct.dv) false))=(qgC ev false b).dv:=rfl
theorem qEJ (T:Tab) (h:HEv T) (h8:H8 T) (hc:HCl T 956 (K1 4) 56) (hl:T.val 1123 []=some (.d (.b true),false)) (b:ABooks) (hb:b.ok) (i d ev am:Int) :
  T.val 1122 [b.dv,.a [I i,I d,I ev,I am]]=some (.d (.b true),false):=by
 have e0:=qCm T h.hU b hb
 rw[qaf T (h8 1122 qho rfl) rfl];by_cases hg:qhl b=true
 ·rw[hg] at e0;simp[qho,Fr.ofArgs,e0,hl]
 have hg':qhl b=false:=by simpa using hg
 rw[hg'] at e0;obtain⟨hf,hpl⟩:=qBh hg';have e1:=qvc T h h8 hc b hb hf i d ev am
 have e2:=qvc T h h8 hc (qgC ev false b) (qyS hb) (fun p hp=>by
  obtain⟨q,hq,rfl⟩:=List.mem_map.1 hp;exact Nat.le_trans (List.length_filter_le _ q.Fees.l) (hf q hq)) i d ev am
 simp only[qA4] at e2;have hch:=qzO T b i d ev am
 have hlen:=qw5 T b hf i d ev am
 generalize hdu:qf0 T b i d ev am=du at *
 obtain⟨L,e⟩:=du;simp only at e1 e2 hch hlen;generalize L.isEmpty=tL at *
 have e3:=fun s t=>qCu T h8 L hch hlen s t
 have hz:qho=qho:=rfl
 conv at hz=>rhs;unfold qho
 generalize (DV.a [(.l (K1 2) [] true),(.l (K1 3) [] true),(.l (K1 4) [] true),(I 0),(I 0),(I 0),(I 0),(I 0),(I 0),(I 0),(I 0),(I 0),(I 0),(I 0),(I 0),(I 0),(I 0),(.l (K1 19) [] true),(.l (K1 7) [] true),(.l (K1 10) [] true),(.l (K1 6) [] true),(.l (K1 7) [] true)])=z at hz;rw[hz];have c18:18≤(PV.d b.dv).cells.length:=by
  show 18≤22
  decide
 have mk17 : ∀(r n:Nat) (tt:Bool) (q:PV→Option (PV×Bool)),bo (mkP (K1 22) (putAt (PV.d b.dv).cells 17 (PV.cells (.r r (K1 19) 0 n tt)))) (.h q)=q (bkC b n tt r):=fun _ _ _ _=>rfl
 have sdv:=qw3 ev b
 have lp:=fun tt k r fr H => @qv3 T b tt i d ev am b.Products.l hpl hf e L tL k r fr H
 have hQ:b.Products.l.length=((b.Products.l.map (qb5 ev)).map AProduct.dv).length:=by simp
 cases hps:b.Products.l with
 |nil =>
  rw[hps] at lp sdv hQ;simp[Fr.ofArgs,e0,e1,hps,qbR];rw[qBZ rfl];simp[qf7,qas,c18,↓mk17];refine lp true _ _ _ _ ?_ (by simp[gc,Fr.keep,qae,qac,qab,PV.refs,qad,gcH,qag,Obj.refs,PV.ren,Obj.ren,Heap.obj,Fr.ren,gh,zzd,qg0,qg9])
  generalize List.map AProduct.dv (List.map (qb5 ev) [])=Q at *
  simp only[List.length_nil] at hQ;have hpu:=fun tt=>qsJ b tt _ Q hQ
  simp[hpu,sdv,e2,e3,hl,PV.scal,PV.scal1,DV.scal,DV.scal1,qbR,frz,qfp]
 |cons p ps =>
  have g1:(ps.length+1)*240≤140737488355328:=by rw[hps,zzn] at hpl;omega
  rw[hps] at lp sdv hQ;simp[Fr.ofArgs,e0,e1,hps,g1,qf7,qas,qbR,c18,↓mk17];refine lp false _ _ _ _ ?_ (by simp[gc,Fr.keep,qae,qac,qab,PV.refs,qad,gcH,qag,Obj.refs,PV.ren,Obj.ren,Heap.obj,Fr.ren,gh,zzd,qg0,qg9])
  generalize List.map AProduct.dv (List.map (qb5 ev) (p::ps))=Q at *
  simp only[zzn] at hQ;have hpu:=fun tt=>qsJ b tt _ Q hQ
  simp[hpu,sdv,e2,e3,hl,PV.scal,PV.scal1,DV.scal,DV.scal1,qbR,frz,qfp]
end Go.Sim

end
