/- Part 24 of the proof. -/
import Derived.Test.YtmaaepdecdhmnaaGreatDoorB21
import Derived.Test.YtmaaepdecdhmnaaGreatDoorB232
set_option linter.all false
namespace Go.Sim
set_option maxRecDepth 100000
set_option maxHeartbeats 8000000
section
attribute [local simp ↓] qdZ qdX qdP qdY qdM qdQ qdN qdO sqK blK lpK qd4 qd2 qd0 qd3 qd1 qdI qdK qeu qdo qdm qdn qdr qcS qcT qcD qcG qcR qcV qcF qcW qcL qcN qcO qcP qcU qcQ qcE qcH qcj qcI qcM qdk qdh qcY qcX qc6 qcZ qbu qbC qc0 qc1 qd6 qcu qd5 qes qcz qdc qdd qc7 qc9 qc8 qcl qdl qcn qc3 qdg qdb qda qc5 qc4 qdf qdi qc2 qde qdJ qck qcy qdz qcw qbR qdA qco qcp qdj qbV qer qcJ qdp qdq qd8 qet qd7 qdR qdS qdT qdU qdV qdW qcK qdy qew qeP qeQ qeN qeO qeM qev qeT qeR qfn qeS qfs qfJ qcm
attribute [local simp] qbO qd9 qea qdE qdF qds qdt qep qeq qdB qdC rd IOp.adds qaq gh nid rgK rdS qdG qdH qeb qec qeg qeh qek qef qej qei qcC qcA qcB qee qed qdx qdw qem qel qen qeo qeC qeB qeE qeD qeH qeA qeI qfq qfj qfp qfo
section
attribute [local simp ↓] qbJ qbT qbx qeG qbS qfk qbt qbw qce qeV qeW qcq qcr qbv qey qbz qe0 qeZ qe6 qfi qeY qfg qff qbD qe2 qbX qe3 qe5 qe4 qe7 qe1 qe9 qfb qfe qfd qfc qe8 qfa qfh qex qeX
attribute [local simp] qby qbe writeS touchS qaD qa4 chg qbm qbb qaY qbc PV.refs PV.refsL IOp.okD IOp.barr qb2 Nat.testBit
attribute [local simp] gc Fr.keep qaf qae qad PV.refs PV.refsL qaj gcH qai Obj.refs PV.ren PV.renL Obj.ren Heap.obj Fr.ren gh zzd
noncomputable def qte(b:ABooks)(id day am:Int)(r:ARule):Int:=if r.Window=2 then IntKind.i64.wrap (am+qhw b.Journal.l id day day)else if r.Window=3 then IntKind.i64.wrap (am+qhw b.Journal.l id (mst day) day)else am
noncomputable def qiO(b:ABooks)(id day am:Int)(Q:ARule→AValue×Int)(r:ARule):Int:=if (Q r).2=0 then (if (Q r).1.N<qte b id day am r then 20 else 0)else (Q r).2
theorem qJx(T:Tab)(hU:HU T)(h11:H11 T)(l:List ABlock)(t:Bool)(acc day n:Int)(hn:l.length≤100000):T.val 1021 [.l (K1 7) (l.map ABlock.dv) t,I acc,I day,I n]=some (.d (.b (qjp l acc day n)),false):=by
 rw[qab T (h11 1021 F1021 rfl) rfl];have e:=qx8 T hU l t acc day hn
 unfold qjp;have hl:(l.filter (qa2 acc day)).length≤100000:=zzL (List.length_filter_le (qa2 acc day) l) hn
 generalize l.filter (qa2 acc day)=z at *
 generalize hR:z.any (qha n)=R;simp[F1021,Fr.ofArgs,e];refine qbB (fun i:Nat=>⟨[(10,.d (I i)),(9,.d (.l (K1 7) (z.map ABlock.dv) false)),(3,.d (I n))],[]⟩) (fun i=>i≤z.length∧R=(z.drop i).any (qha n)) (fun i=>z.length-i) ?_ 0 ⟨zzK _,hR.symm⟩ (by simp)
 rintro B-i ⟨hi,hs⟩ hx;by_cases hlt:i<z.length
 ·have h1:(i:Int)<z.length:=by omega
  have h3:=wr1 (i:=i) (by omega)
  rw[zzz hlt,List.any_cons]at hs;have hd:qha n z[i]=true→R=true:=fun h=>by rw[hs,h];rfl
  have hx':=fun (h:qha n z[i]=false)=>hx (i+1) ⟨by omega,by rw[hs,h,Bool.false_or]⟩ (by omega)
  unfold qha at hd hx';clear hx hs
  by_cases k1:z[i].Kind=1
  ·simp[qi9,h1,hlt,h3,k1,zzj];rw[hd (by simp[k1])]
  have g1:=qac k1
  by_cases k2:z[i].Kind=2
  ·by_cases p:0<n
   ·simp[qi9,h1,hlt,h3,k1,g1,k2,p,zzj];rw[hd (by simp[k2,p])]
   ·simp[qi9,h1,hlt,h3,k1,g1,k2,p,zzj];exact hx' (by simp[k2,p]) _ _ (by simp)
  have g2:=qac k2
  by_cases k3:z[i].Kind=3
  ·by_cases p:n<0
   ·simp[qi9,h1,hlt,h3,k1,g1,k2,g2,k3,p,zzj];rw[hd (by simp[k3,p])]
   ·simp[qi9,h1,hlt,h3,k1,g1,k2,g2,k3,p,zzj];exact hx' (by simp[k3,p]) _ _ (by simp)
  have g3:=qac k3
  simp[qi9,h1,hlt,h3,k1,g1,k2,g2,k3,g3,zzj];exact hx' (by simp[k1,k2,k3]) _ _ (by simp)
 ·have:i=z.length:=by omega
  subst this;rw[zzF (zzt _)]at hs;have h1:¬((z.length:Int)<z.length):=by omega
  simp[qi9];rw[hs];rfl
theorem qJz(T:Tab)(h:HEx T)(h11:H11 T)(b:ABooks)(hb:b.ok)(v:AProduct)(hl:v.Rules.l.length≤maxLen)(id day am:Int)(V:DV)(o':Bool)(e678:T.val 678 []=some (.d V,o'))(Q:ARule→AValue×Int)(hQ:∀r∈v.Rules.l,T.val 1031 [r.Amount.dv,V,.l (K1 2) ((qbg b id day am).1.map V2) (qbg b id day am).1.isEmpty]=some (qam (Q r))) :
  T.val 1024 [b.dv,v.dv,I id,I day,I am]=some (.d (I (if v.Rules.l=[]then 0 else if (qbg b id day am).2=0 then qaE (qiO b id day am Q) v.Rules.l else (qbg b id day am).2)),false):=by
 have hm:=mxl
 have e1030:=qJD T h.hN.hU h.hV b id day am hb
 rw[qab T (h11 1024 F1024 rfl) rfl];by_cases h0:v.Rules.l=[]
 ·simp[F1024,Fr.ofArgs,h0]
 rw[if_neg h0];have l0:v.Rules.l.length≠0:=fun c=>h0 (List.length_eq_zero_iff.1 c)
 have l1:((v.Rules.l.length:Int)==0)=false:=qac (by omega)
 have l2:¬((v.Rules.l.length:Int)=0):=by omega
 by_cases he:(qbg b id day am).2=0
 ·have hd:=quP he
  rw[he]at e1030;rw[if_pos he];have e1032:=fun f=>qJF T h.hN.hU b hb id f day
  have e1033:=qya T h.hV day hd
  generalize (qbg b id day am).1.map V2=env at *
  generalize (qbg b id day am).1.isEmpty=tE at *
  generalize hr:qaE (qiO b id day am Q) v.Rules.l=R;simp[F1024,Fr.ofArgs,h0,l0,l1,l2,e1030];refine qbB (fun i:Nat=>⟨[(13,.d (I i)),(11,.d (.l (K1 2) env tE)),(6,.p 0 0 0),(5,.p 1 0 0),(4,.d (I am)),(3,.d (I day)),(2,.d (I id))],[some (.box (K1 19) (.d v.dv)),some (.box (K1 22) (.d b.dv))]⟩) (fun i=>i≤v.Rules.l.length∧R=qaE (qiO b id day am Q) (v.Rules.l.drop i)) (fun i=>v.Rules.l.length-i) ?_ 0 ⟨zzK _,hr.symm⟩ (by simp)
  rintro B-i ⟨hi,hs⟩ hx;by_cases hlt:i<v.Rules.l.length
  ·have h1:(i:Int)<v.Rules.l.length:=by omega
   have h3:=wr1 (i:=i) (by omega)
   have e1031:=hQ v.Rules.l[i] (zzs hlt)
   rw[zzz hlt,qaE]at hs;have hx':=fun h=>hx (i+1) ⟨by omega,h⟩ (by omega)
   clear hx
   obtain⟨q,hq⟩:∃q,Q v.Rules.l[i]=q:=⟨_,rfl⟩;obtain⟨⟨ty,n⟩,f⟩:=q;rw[hq]at e1031;unfold qam at e1031;unfold qiO qte at hs;rw[hq]at hs;simp only at hs e1031;by_cases hf:f=0
   ·subst hf;simp only[if_true]at hs;by_cases w2:v.Rules.l[i].Window=2
    ·simp only[w2,if_true]at hs;by_cases hc:n<IntKind.i64.wrap (am+qhw b.Journal.l id day day)
     ·rw[if_pos hc,if_neg (by decide)]at hs
      simp[qij,h1,hlt,h3,zzj,e678,e1031,w2,e1032,hc,AValue.dv,qbY];rw[hs]
     ·rw[if_neg hc,if_pos rfl]at hs;simp[qij,h1,hlt,h3,zzj,e678,e1031,w2,e1032,hc,AValue.dv,qbY];exact hx' hs _ _ (by simp)
    ·have g2:=qac w2
     simp only[w2,if_false]at hs;by_cases w3:v.Rules.l[i].Window=3
     ·simp only[w3,if_true]at hs;by_cases hc:n<IntKind.i64.wrap (am+qhw b.Journal.l id (mst day) day)
      ·rw[if_pos hc,if_neg (by decide)]at hs
       simp[qij,h1,hlt,h3,zzj,e678,e1031,w2,g2,w3,e1032,e1033,hc,AValue.dv,qbY];rw[hs]
      ·rw[if_neg hc,if_pos rfl]at hs;simp[qij,h1,hlt,h3,zzj,e678,e1031,w2,g2,w3,e1032,e1033,hc,AValue.dv,qbY];exact hx' hs _ _ (by simp)
     ·have g3:=qac w3
      simp only[w3,if_false]at hs;by_cases hc:n<am
      ·rw[if_pos hc,if_neg (by decide)]at hs
       simp[qij,h1,hlt,h3,zzj,e678,e1031,w2,g2,w3,g3,hc,AValue.dv,qbY];rw[hs]
      ·rw[if_neg hc,if_pos rfl]at hs;simp[qij,h1,hlt,h3,zzj,e678,e1031,w2,g2,w3,g3,hc,AValue.dv,qbY];exact hx' hs _ _ (by simp)
   ·have gf:=qac hf
    rw[if_neg hf,if_neg hf]at hs;simp[qij,h1,hlt,h3,zzj,e678,e1031,hf,gf,bne,AValue.dv,qbY];rw[hs]
  ·have:i=v.Rules.l.length:=by omega
   subst this;rw[zzF (zzt _),qaE]at hs;have h1:¬((v.Rules.l.length:Int)<v.Rules.l.length):=by omega
   simp[qij];rw[hs]
 ·have ge:=qac he
  rw[if_neg he];simp[F1024,Fr.ofArgs,h0,l0,l1,l2,e1030,he,ge,bne]
theorem qLc(T:Tab)(h:HEx T)(hF:HF5 T)(b:ABooks)(hb:b.ok)(v:AProduct)(hl:v.Rules.l.length≤maxLen)(id day am:Int)(V:DV)(o:Bool)(e371:T.val 371 []=some (.d V,o))(Q:ARule→AValue×Int)(hQ:∀r∈v.Rules.l,T.val 916 [r.Amount.dv,V,.l (K1 2) ((qbg b id day am).1.map V2) (qbg b id day am).1.isEmpty]=some (qam (Q r))) :
  T.val 858 [b.dv,v.dv,I id,I day,I am]=some (.d (I (if v.Rules.l=[]then 0 else if (qbg b id day am).2=0 then qaE (qiO b id day am Q) v.Rules.l else (qbg b id day am).2)),false):=by
 have hm:=mxl
 have e801:=qLa T h.hN.hU h.hV b id day am hb
 rw[qab T (hF 858 F858 rfl) rfl];by_cases h0:v.Rules.l=[]
 ·simp[F858,Fr.ofArgs,h0]
 rw[if_neg h0];have l0:v.Rules.l.length≠0:=fun c=>h0 (List.length_eq_zero_iff.1 c)
 have l1:((v.Rules.l.length:Int)==0)=false:=qac (by omega)
 have l2:¬((v.Rules.l.length:Int)=0):=by omega
 by_cases he:(qbg b id day am).2=0
 ·have hd:=quP he
  rw[he]at e801;rw[if_pos he];have e918:=fun f=>qLq T h.hN.hU b hb id f day
  have e879:=qyK T h.hV day hd
  have e948:=qLC T hF day
  generalize (qbg b id day am).1.map V2=env at *
  generalize (qbg b id day am).1.isEmpty=tE at *
  generalize hr:qaE (qiO b id day am Q) v.Rules.l=R;simp[F858,Fr.ofArgs,h0,l0,l1,l2,e801];refine qbB (fun i:Nat=>⟨[(38,.d (I i)),(37,.d (I v.Rules.l.length)),(36,.d (.l (K1 6) (v.Rules.l.map ARule.dv) v.Rules.t)),(11,.d (.l (K1 2) env tE)),(5,.p 0 0 0),(4,.d (I am)),(3,.d (I day)),(2,.d (I id))],[some (.box (K1 22) (.d b.dv))]⟩) (fun i=>i≤v.Rules.l.length∧R=qaE (qiO b id day am Q) (v.Rules.l.drop i)) (fun i=>v.Rules.l.length-i) ?_ 0 ⟨zzK _,hr.symm⟩ (by simp)
  rintro B-i ⟨hi,hs⟩ hx;by_cases hlt:i<v.Rules.l.length
  ·have h1:(i:Int)<v.Rules.l.length:=by omega
   have h3:=wr1 (i:=i) (by omega)
   have e916:=hQ v.Rules.l[i] (zzs hlt)
   rw[zzz hlt,qaE]at hs;have hx':=fun h=>hx (i+1) ⟨by omega,h⟩ (by omega)
   clear hx
   obtain⟨q,hq⟩:∃q,Q v.Rules.l[i]=q:=⟨_,rfl⟩;obtain⟨⟨ty,n⟩,f⟩:=q;rw[hq]at e916;unfold qam at e916;unfold qiO qte at hs;rw[hq]at hs;simp only at hs e916;have e917:=qIx T hF v.Rules.l[i].Window _ (qyZ (K1 22) (K1 6) (K1 2) b.dv v.Rules.l[i].dv (AValue.dv ⟨ty,n⟩))
   unfold qtB qtA at e917;simp only[AValue.dv]at e917 e916;by_cases hf:f=0
   ·subst hf;simp only[if_true]at hs;by_cases w2:v.Rules.l[i].Window=2
    ·simp only[w2,if_true]at hs;rw[w2]at e917;simp only[if_true,decide_true,Bool.true_or]at e917;by_cases hc:n<IntKind.i64.wrap (am+qhw b.Journal.l id day day)
     ·rw[if_pos hc,if_neg (by decide)]at hs
      simp[qim,h1,hlt,h3,zzj,e371,e916,w2,e917,e918,e948,↓qiw,↓qis,qal,qhd,qhS,qji,qkp,↓qkT,hc,AValue.dv,qbY];rw[hs]
     ·rw[if_neg hc,if_pos rfl]at hs;simp[qim,h1,hlt,h3,zzj,e371,e916,w2,e917,e918,e948,↓qiw,↓qis,qal,qhd,qhS,qji,qkp,↓qkT,hc,AValue.dv,qbY];exact hx' hs _ _ (by simp)
    ·have g2:=qac w2
     simp only[w2,if_false]at hs;by_cases w3:v.Rules.l[i].Window=3
     ·simp only[w3,if_true]at hs;rw[w3]at e917;simp only[if_true,decide_true,Bool.or_true,show ¬((3:Int)=2)by decide,if_false]at e917
      by_cases hc:n<IntKind.i64.wrap (am+qhw b.Journal.l id (mst day) day)
      ·rw[if_pos hc,if_neg (by decide)]at hs
       simp[qim,h1,hlt,h3,zzj,e371,e916,w2,g2,w3,e917,e918,e879,↓qiw,↓qis,qal,qhd,qhS,qji,qkp,↓qkT,hc,AValue.dv,qbY];rw[hs]
      ·rw[if_neg hc,if_pos rfl]at hs;simp[qim,h1,hlt,h3,zzj,e371,e916,w2,g2,w3,e917,e918,e879,↓qiw,↓qis,qal,qhd,qhS,qji,qkp,↓qkT,hc,AValue.dv,qbY];exact hx' hs _ _ (by simp)
     ·have g3:=qac w3
      simp only[w3,if_false]at hs;rw[if_neg w2,if_neg w3,decide_eq_false w2,decide_eq_false w3,Bool.false_or]at e917;by_cases hc:n<am
      ·rw[if_pos hc,if_neg (by decide)]at hs
       simp[qim,h1,hlt,h3,zzj,e371,e916,w2,g2,w3,g3,e917,qhS,qkp,↓qkT,hc,AValue.dv,qbY];rw[hs]
      ·rw[if_neg hc,if_pos rfl]at hs;simp[qim,h1,hlt,h3,zzj,e371,e916,w2,g2,w3,g3,e917,qhS,qkp,↓qkT,hc,AValue.dv,qbY];exact hx' hs _ _ (by simp)
   ·have gf:=qac hf
    rw[if_neg hf,if_neg hf]at hs;simp[qim,h1,hlt,h3,zzj,e371,e916,hf,gf,bne,AValue.dv,qbY];rw[hs]
  ·have:i=v.Rules.l.length:=by omega
   subst this;rw[zzF (zzt _),qaE]at hs;have h1:¬((v.Rules.l.length:Int)<v.Rules.l.length):=by omega
   simp[qim];rw[hs]
 ·have ge:=qac he
  rw[if_neg he];simp[F858,Fr.ofArgs,h0,l0,l1,l2,e801,he,ge,bne]
section
variable {R : Type} {H : Heap} {id : Nat} {q : PV → Heap → Option R} {k : K} {b : Nat}
theorem qko{o off len:Nat}{k':K}{ys:List DV}:bo2 (qgc H id k b (.r o k' off len false) ys) (.h q)=match H.obj o with
  |some (.sl k'' ro es)=>chk ((K.eq k k'&&K.eq k k''&&decide (off+len≤es.length)&&decide ((len+ys.length)*b≤2^47))=true) (.h (chk (ro≤off+len) (.h (q (.r id k 0 (len+ys.length) false) ((H.put o none).put id (some (.sl k (ro-off) ((es.drop off).take len++ys))))))))
  | _=>none:=by
 simp only[qgc,qfv,qbo,qbO,Bool.true_or,if_true,zzg,if_false];cases H.obj o with
 |none=>rfl
 |some w =>
  cases w with
  |sl k'' ro es =>
   simp only[chk];by_cases h:(K.eq k k'&&K.eq k k''&&decide (off+len≤es.length)&&decide ((len+ys.length)*b≤2^47))=true
   ·simp only[h,if_true];by_cases g:ro≤off+len
    ·simp only[g,if_true];rfl
    ·simp only[g,if_false];rfl
   ·simp only[h,if_false,zzg];rfl
  | _=>rfl
end
theorem qDt{α:Type}(m:List α)(x:α)(p n:Nat)(hp:p≤n)(hn:m.length=n):(((m.take p).take p++[x]).take (p+1))++(m.drop p).take (n-p)=m.take p++x::m.drop p:=by
 subst hn;have a:(m.take p++[x]).take (p+1)=m.take p++[x]:=zzv (by simp;omega)
 have b:(m.drop p).take (m.length-p)=m.drop p:=zzv (by simp)
 rw[List.take_take,Nat.min_self,a,b];simp
theorem qDu{α:Type}(m:List α)(x:α)(p n:Nat)(hp:p<n)(hn:m.length=n):(((m.take p).take p++[x]).take (p+1))++(m.drop (p+1)).take (n-(p+1))=m.set p x:=by
 subst hn;have a:(m.take p++[x]).take (p+1)=m.take p++[x]:=zzv (by simp;omega)
 have b:(m.drop (p+1)).take (m.length-(p+1))=m.drop (p+1):=zzv (by simp)
 rw[List.take_take,Nat.min_self,a,b,List.set_eq_take_append_cons_drop,if_pos hp];simp
theorem qCg(T:Tab)(hN:HN T)(l g:List ALeg)(t:Bool)(i:Nat)(hi:i<l.length)(hn:l.length<1000000)(hg:g.length<1000000){k:KC (PV×Bool)}{r:Option (PV×Bool)}{fr:Fr}{H:Heap}
  (he:∀b,k (.exit 2) [(30,.d (.b b)),(6,.d (I (plc g l[i]))),(5,.d (.l (K1 3) [] true)),(4,.d (I i)),(3,.r 0 (K1 3) 0 g.length false),(0,.d (.l (K1 3) (l.map ALeg.dv) t))] [some (.sl (K1 3) 0 (g.map ALeg.dv))]=r)
  (h0:gc [0,3,4,5,6] 0 ⟨fr,H⟩=⟨[(6,.d (I 0)),(5,.d (.l (K1 3) [] true)),(4,.d (I i)),(3,.r 0 (K1 3) 0 g.length false),(0,.d (.l (K1 3) (l.map ALeg.dv) t))],[some (.sl (K1 3) 0 (g.map ALeg.dv))]⟩) :
  kC T.env 0 fr H (.h (.loop [0,3,4,5,6] qlR,k))=r:=by
 have h1:(i:Int)<l.length:=by omega
 refine qf1 (fun j:Nat=>⟨[(6,.d (I j)),(5,.d (.l (K1 3) [] true)),(4,.d (I i)),(3,.r 0 (K1 3) 0 g.length false),(0,.d (.l (K1 3) (l.map ALeg.dv) t))],[some (.sl (K1 3) 0 (g.map ALeg.dv))]⟩) (fun j=>j) (plc g l[i]) ?_ ?_ (by rw[h0];rfl)
 ·intro B _;by_cases hp:plc g l[i]<g.length
  ·have hat:=qmP g l[i] hp
   have e:=qti T hN g[plc g l[i]] l[i]
   rw[hat]at e;generalize plc g l[i]=p at *
   have g1:(p:Int)<g.length:=by omega
   simp[qlR,hp,g1,hi,h1,e,↓qb8,↓qca,he]
  ·have hp':¬((plc g l[i]:Int)<g.length):=by omega
   simp[qlR,hp,hp',hi,h1,↓qb8,↓qca,he]
 ·intro B _ j hj c hc;have hjg:j<g.length:=Nat.lt_of_lt_of_le hj (qoF _ _)
  have hlt:=qsL g l[i] j hjg hj
  have e:=qti T hN g[j] l[i]
  rw[hlt]at e;have g1:(j:Int)<g.length:=by omega
  have w:IntKind.i64.wrap ((j:Int)+1)=(j:Int)+1:=wrI (by omega) (by omega)
  simp[qlR,hjg,g1,hi,h1,e,w,↓qb8,↓qca];exact hc _ _ (by simp)
theorem qCh(T:Tab)(hN:HN T)(l:List ALeg)(t:Bool)(hn:l.length<1000000){k:KC (PV×Bool)}{fr:Fr}{H:Heap}
  (h0:gc [0,3,4] 0 ⟨fr,H⟩=⟨[(4,.d (I 0)),(3,.d (.l (K1 3) [] true)),(0,.d (.l (K1 3) (l.map ALeg.dv) t))],[]⟩) :
  kC T.env 0 fr H (.h (.loop [0,3,4] qkd,k))=k (.exit 0) [(13,.d (.b false)),(4,.d (I l.length)),(3,qao (K1 3) ((l.foldl qa0 []).map ALeg.dv)),(0,.d (.l (K1 3) (l.map ALeg.dv) t))] (qaR (K1 3) ((l.foldl qa0 []).map ALeg.dv)):=by
 rw[qa3 l (fun i (g:List ALeg)=>⟨[(4,.d (I i)),(3,qao (K1 3) (g.map ALeg.dv)),(0,.d (.l (K1 3) (l.map ALeg.dv) t))],qaR (K1 3) (g.map ALeg.dv)⟩) (fun i g=>Srt g∧g.length≤i) (fun _ g x c=>c (qa0 g x)) (fun g=>k (.exit 0) [(13,.d (.b false)),(4,.d (I l.length)),(3,qao (K1 3) (g.map ALeg.dv)),(0,.d (.l (K1 3) (l.map ALeg.dv) t))] (qaR (K1 3) (g.map ALeg.dv))) ?_ ?_ (b0:=[]) h0 ⟨List.Pairwise.nil,zzt _⟩]
 ·rw[qbG (fun _ g x=>qa0 g x) _ _ (fun _ _ _ _=>rfl)]
  have:∀(l:List ALeg) (i:Nat) (g:List ALeg),qag (fun _ g x=>qa0 g x) i g l=l.foldl qa0 g:=by
   intro l;induction l with
   |nil=>intro _ _;rfl
   |cons x l ih=>intro i g;rw[qag,ih,List.foldl_cons]
  rw[this]
 ·intro B _ g _;cases g with
  |nil=>simp[qkd,qao,qaR]
  |cons y g=>simp[qkd,qao,qaR]
 ·intro B _ i g hi hg c hc;have h1:(i:Int)<l.length:=by omega
  have h3:=wr1 (i:=i) (by omega)
  have hg':Srt (qa0 g l[i])∧(qa0 g l[i]).length≤i+1:=⟨qtc _ hg.1,zzL (qoc _ _) (by omega)⟩
  have hc':=fun fr H=>hc (qa0 g l[i]) fr H hg'
  clear hc
  cases g with
  |nil =>
   simp[qkd,qao,qaR,h1,hi,h3];rw[qjz];simp;simp[qlR,h1,hi,h3,↓qzq,↓qko];exact hc' _ _ (by simp[qao,qaR,qa0])
  |cons y g =>
   obtain⟨gl,hgl⟩:∃gl,y::g=gl:=⟨_,rfl⟩;have hov:qao (K1 3) (List.map ALeg.dv (y::g)) = .r 0 (K1 3) 0 gl.length false:=by subst hgl;simp[qao]
   have hoo:qaR (K1 3) (List.map ALeg.dv (y::g))=[some (.sl (K1 3) 0 (gl.map ALeg.dv))]:=by subst hgl;simp[qaR]
   have hov':∀m,m≠[]→qao (K1 3) (List.map ALeg.dv m) = .r 0 (K1 3) 0 m.length false:=fun m hm=>by
    cases m with
    |nil=>exact absurd rfl hm
    |cons a b=>simp[qao]
   have hoo':∀m,m≠[]→qaR (K1 3) (List.map ALeg.dv m)=[some (.sl (K1 3) 0 (m.map ALeg.dv))]:=fun m hm=>by
    cases m with
    |nil=>exact absurd rfl hm
    |cons a b=>simp[qaR]
   simp only[hov,hoo];simp only[hgl]at hg hg' hc'⊢;rw[hov' _ (qod gl _),hoo' _ (qod gl _)]at hc';clear hov hoo hov' hoo' hgl
   have hlen:gl.length<1000000:=by omega
   have lp:=fun k r he fr H => @qCg T hN l gl t i hi hn hlen k r fr H he
   have hpl:=qoF gl l[i]
   simp[qkd,h1,hi,h3];refine lp _ _ (fun b => ?_) _ _ (by simp)
   obtain⟨x,hx⟩:∃x,l[i]=x:=⟨_,rfl⟩;simp only[hx]at hc' hpl hg'⊢;have ht:(gl.map ALeg.dv).take gl.length=gl.map ALeg.dv:=zzv (by simp)
   by_cases hp:plc gl x<gl.length
   ·have e:=qti T hN x gl[plc gl x]
    have hat:=qmP gl x hp
    by_cases hl:ltL x gl[plc gl x]=true
    ·rw[qoe gl x (fun _=>hl)]at hc'⊢
     rw[hl]at e;generalize plc gl x=p at *
     have g1:(p:Int)<gl.length:=by omega
     have g2:(p:Int)≤gl.length:=by omega
     have g4:p*32≤140737488355328:=by omega
     have g5:(p+1)*32≤140737488355328:=by omega
     have g6:(p+1+(gl.length-p))*32≤140737488355328:=by omega
     have g7:p+(gl.length-p)=gl.length:=by omega
     have g8:min p gl.length=p:=by omega
     have g9:((gl.map ALeg.dv).take p).length=p:=by simp;omega
     simp[hx,hi,h1,h3,hp,hpl,g1,g2,g4,g5,g6,g7,g8,g9,e,ht,↓qb8,↓qca,↓qnH,↓qko];refine hc' _ _ ?_;rw[qDt (gl.map ALeg.dv) x.dv p gl.length (by omega) (by simp)]
     simp;omega
    ·have hl':ltL x gl[plc gl x]=false:=by simpa using hl
     have hk:=qwp hl' hat
     rw[qrb gl x hp hl']at hc'⊢;rw[hl']at e;generalize plc gl x=p at *
     have g1:(p:Int)<gl.length:=by omega
     have g2:(p:Int)≤gl.length:=by omega
     have g4:p*32≤140737488355328:=by omega
     have g5:(p+1)*32≤140737488355328:=by omega
     have g6:(p+1+(gl.length-(p+1)))*32≤140737488355328:=by omega
     have g7:p+(gl.length-p)=gl.length:=by omega
     have g7':p+1+(gl.length-(p+1))=gl.length:=by omega
     have g8:min p gl.length=p:=by omega
     have g9:((gl.map ALeg.dv).take p).length=p:=by simp;omega
     have g10:(p:Int)+1≤gl.length:=by omega
     have g11:(0:Int)≤(p:Int)+1:=by omega
     have g12:((p:Int)+1).toNat=p+1:=by omega
     have g13:gl.length*32≤140737488355328:=by omega
     have w:IntKind.i64.wrap ((p:Int)+1)=(p:Int)+1:=wrI (by omega) (by omega)
     have hc3:(PV.d x.dv).cells.length=3:=rfl
     have hm:∀n,mkP (some 3) (putAt (PV.d x.dv).cells 1 [.d (.i .i64 n)])=some (.d (ALeg.dv ⟨x.Account,n,x.Currency⟩)):=fun _=>rfl
     simp[hx,hi,h1,h3,hp,hpl,g1,g2,g4,g5,g6,g7,g7',g8,g9,g10,g11,g12,g13,w,hm,hc3,e,ht,↓qb8,↓qca,↓qjO,↓qnH,↓qko,qay,qax];refine hc' _ _ ?_;have hx':(⟨x.Account,IntKind.i64.wrap (x.Amount+gl[p].Amount),x.Currency⟩:ALeg)=qkm gl[p] x:=by
      rw[qkm,hk.1,hk.2,w64,Int.add_comm]
     rw[hx',qDu (gl.map ALeg.dv) (qkm gl[p] x).dv p gl.length (by omega) (by simp)]
     rw[show ∀v:ALeg,(gl.map ALeg.dv).set p v.dv=(gl.set p v).map ALeg.dv from fun v=>List.map_set.symm]
     simp[g7']
   ·rw[qoe gl x (fun h=>absurd h hp)]at hc'⊢
    have hpe:plc gl x=gl.length:=by omega
    rw[hpe]at hc'⊢;clear hp hpe hpl
    generalize hz:gl.length=n at *
    have g4:n*32≤140737488355328:=by omega
    have g5:(n+1)*32≤140737488355328:=by omega
    have g9:((gl.map ALeg.dv).take n).length=n:=by simp;omega
    simp[hx,hi,h1,h3,hz,g4,g5,g9,ht,↓qb8,↓qca,↓qnH,↓qko];refine hc' _ _ ?_;rw[zzv (by simp;omega)]
    have a1:gl.take n=gl:=zzv (by omega)
    have a2:gl.drop n=[]:=zzF (by omega)
    rw[a1,a2];simp[hz]
def st2(g:List ALeg)(i:Int):List ALeg→St
 | []=>⟨[(9,.d (I i)),(8,.d (.l (K1 3) [] true)),(3,.r 0 (K1 3) 0 g.length false)],[some (.sl (K1 3) 0 (g.map ALeg.dv))]⟩
 |y::o=>⟨[(9,.d (I i)),(8,.r 0 (K1 3) 0 (y::o).length false),(3,.r 1 (K1 3) 0 g.length false)],[some (.sl (K1 3) 0 ((y::o).map ALeg.dv)),some (.sl (K1 3) 0 (g.map ALeg.dv))]⟩
theorem qCi(T:Tab)(g:List ALeg)(hn:g.length<1000000){k:KC (PV×Bool)}{fr:Fr}{H:Heap}(h0:gc [3,8,9] 0 ⟨fr,H⟩=st2 g 0 []) :
  kC T.env 0 fr H (.h (.loop [3,8,9] qii,k))=k (.exit 4) ((79,.d (.b false))::(st2 g g.length (g.filter qbp)).fr) (st2 g g.length (g.filter qbp)).H:=by
 rw[qa3 g (fun i (o:List ALeg)=>st2 g i o) (fun i o=>o.length≤i) (fun _ o x c=>c (if qbp x=true then o++[x]else o)) (fun o=>if o.length≤g.length then k (.exit 4) ((79,.d (.b false))::(st2 g g.length o).fr) (st2 g g.length o).H else none) ?_ ?_ (b0:=[]) h0 (zzt _)]
 ·rw[qbG (fun _ o x=>if qbp x=true then o++[x]else o) _ _ (fun _ _ _ _=>rfl)]
  have key:∀(l:List ALeg) (i:Nat) (o:List ALeg),qag (fun _ o x=>if qbp x=true then o++[x]else o) i o l=o++l.filter qbp:=by
   intro l;induction l with
   |nil=>intro i o;simp[qag]
   |cons x l ih=>intro i o;rw[qag,ih,List.filter_cons];split<;>simp
  rw[key,List.nil_append,if_pos (List.length_filter_le _ _)]
 ·intro B _ o ho;rw[if_pos ho];cases o with
  |nil=>simp[qii,st2]
  |cons y o=>simp[qii,st2]
 ·intro B _ i o hi ho c hc;have h1:(i:Int)<g.length:=by omega
  have h3:=wr1 (i:=i) (by omega)
  have hs:(if qbp g[i]=true then o++[g[i]]else o).length≤i+1:=by
   split
   ·simp;omega
   ·omega
  have hc':=fun fr H=>hc _ fr H hs
  clear hc
  have hz:(g[i].Amount != 0)=qbp g[i]:=rfl
  obtain⟨q,hq⟩:∃q,qbp g[i]=q:=⟨_,rfl⟩;simp only[hq]at hz hc'⊢;have ho2:=ho
  cases o with
  |nil =>
   cases q with
   |true =>
    simp[qii,st2,h1,hi,h3,hz,↓qb8,↓qca,↓qjO,↓qko];exact hc' _ _ (by simp[st2])
   |false =>
    simp[qii,st2,h1,hi,h3,hz,↓qb8,↓qca,↓qjO];exact hc' _ _ (by simp[st2])
  |cons y o =>
   have g5:(o.length+1+1)*32≤140737488355328:=by simp at ho2;omega
   have g6:((y::o).map ALeg.dv).take (o.length+1)=(y::o).map ALeg.dv:=zzv (by simp)
   have g7:(o.map ALeg.dv).take o.length=o.map ALeg.dv:=zzv (by simp)
   cases q with
   |true =>
    simp[qii,st2,h1,hi,h3,hz,g5,g6,g7,↓qb8,↓qca,↓qjO,↓qko];exact hc' _ _ (by simp[st2])
   |false =>
    simp[qii,st2,h1,hi,h3,hz,↓qb8,↓qca,↓qjO];exact hc' _ _ (by simp[st2])
theorem qJv(T:Tab)(hN:HN T)(l:List ALeg)(t:Bool)(hn:l.length<1000000):T.val 1018 [.l (K1 3) (l.map ALeg.dv) t]=some (.d (.l (K1 3) ((qf3 l).map ALeg.dv) false),true):=by
 rw[qab T (hN 1018 F1018 rfl) rfl];have lp1:=fun k fr H => @qCh T hN l t hn k fr H
 have hl:=qn3 l []
 have hd:qf3 l=(l.foldl qa0 []).filter qbp:=rfl
 rw[hd];generalize l.foldl qa0 []=g at *
 simp at hl;simp[F1018,Fr.ofArgs];refine (lp1 _ _ _ (by simp)).trans ?_
 cases g with
 |nil =>
  simp[qao,qaR];rw[qjz];simp;try simp[qii]
 |cons y g =>
  have lp2:=fun k fr H => @qCi T (y::g) (by omega) k fr H
  generalize hg:y::g=gl at *
  have hov:qao (K1 3) (gl.map ALeg.dv) = .r 0 (K1 3) 0 gl.length false:=by subst hg;simp[qao]
  have hoo:qaR (K1 3) (gl.map ALeg.dv)=[some (.sl (K1 3) 0 (gl.map ALeg.dv))]:=by subst hg;simp[qaR]
  rw[hov,hoo];simp;refine (lp2 _ _ _ (by simp[st2])).trans ?_
  cases gl.filter qbp with
  |nil=>simp[st2]
  |cons a o =>
   have g7:(o.map ALeg.dv).take o.length=o.map ALeg.dv:=zzv (by simp)
   simp[st2,g7]
noncomputable def qnS(b:ABooks)(id day am n:Int):Int:=if (qgO b id day).2=0 then (if (qgO b id day).1<am then 18 else n)else (qgO b id day).2
noncomputable def qiE(b:ABooks)(x:ALeg)(day d:Int):Int:=if (qb6 b x.Account).isSome=false then 11 else if qg6 b x.Account day=false then 16 else if qjp b.Blocks.l x.Account day x.Amount=true then 19 else if 0<x.Amount then d else 0
theorem qK9(T:Tab)(hU:HU T)(hF:HF5 T)(b:ABooks)(hb:b.ok)(hbl:b.Blocks.l.length≤100000)(id day am n:Int)(e858:T.val 858 [b.dv,((qb1 b id day).getD .zero).dv,I id,I day,I am]=some (.d (I n),false)):T.val 768 [b.dv,I id,I day,I am]=some (.d (I (qnS b id day am n)),false):=by
 have e634:=qKY T hU b id day hb hbl
 have e24:=qyr T hU b id day hb
 unfold qnS;generalize (qb1 b id day).getD .zero=v at *
 generalize (qb1 b id day).isSome=s at *
 generalize qgO b id day=a at *
 obtain⟨x,f⟩:=a;simp only at e634⊢;rw[qab T (hF 768 qib rfl) rfl];by_cases hf:f=0
 ·subst hf;by_cases hx:x<am
  ·simp[qib,Fr.ofArgs,e634,e24,e858,hx]
  ·simp[qib,Fr.ofArgs,e634,e24,e858,hx]
 ·have gf:=qac hf
  simp[qib,Fr.ofArgs,e634,e24,e858,hf,gf,bne]
noncomputable def qg7(b:ABooks)(day:Int)(D:ALeg→Int)(x:ALeg):Int:=if x.Account<1000 then 0 else qiE b x day (D x)
theorem qK1(T:Tab)(hU:HU T)(hV:HV T)(hF:HF5 T)(hQ:HQ T)(hN:HN T)(hI:HI T)(b:ABooks)(hb:b.ok)(hbl:b.Blocks.l.length≤100000)(e:AEntry)(hl:e.Legs.l.length≤1000)(D:ALeg→Int)(hD:∀x∈qf3 e.Legs.l,T.val 768 [b.dv,I x.Account,I e.Booked,I x.Amount]=some (.d (I (D x)),false)):T.val 674 [b.dv,e.dv]=some (.d (I (if e.Auth=0 then qaE (qg7 b e.Booked D) (qf3 e.Legs.l)else 0)),false):=by
 rw[qab T (hF 674 F674 rfl) rfl];by_cases h0:e.Auth=0
 ·rw[if_pos h0];have e110:=qKg T hN hI e.Legs.l e.Legs.t (by omega)
  have hnl:(qf3 e.Legs.l).length≤1000:=zzL (qwO e.Legs.l) hl
  generalize qf3 e.Legs.l=nl at *
  generalize hr:qaE (qg7 b e.Booked D) nl=R;simp[F674,Fr.ofArgs,h0,e110];refine qbB (fun i:Nat=>⟨[(17,.d (I i)),(16,.d (I nl.length)),(15,.d (.l (K1 3) (nl.map ALeg.dv) false)),(3,.p 0 0 0),(2,.p 1 0 0)],[some (.box (K1 10) (.d e.dv)),some (.box (K1 22) (.d b.dv))]⟩) (fun i=>i≤nl.length∧R=qaE (qg7 b e.Booked D) (nl.drop i)) (fun i=>nl.length-i) ?_ 0 ⟨zzK _,hr.symm⟩ (by simp)
  rintro B-i ⟨hi,hs⟩ hx;by_cases hlt:i<nl.length
  ·have h1:(i:Int)<nl.length:=by omega
   have h3:=wr1 (i:=i) (by omega)
   have e768:=hD nl[i] (zzs hlt)
   rw[zzz hlt,qaE]at hs;have hx':=fun h=>hx (i+1) ⟨by omega,h⟩ (by omega)
   clear hx
   generalize qaE (qg7 b e.Booked D) (nl.drop (i+1))=Z at hs hx';unfold qg7 at hs;obtain⟨x,hxe⟩:∃x,nl[i]=x:=⟨_,rfl⟩;rw[hxe]at hs e768;by_cases ha:x.Account<1000
   ·rw[if_pos ha,if_pos rfl]at hs;simp[qil,h1,hlt,h3,hxe,ha,zzj];exact hx' hs _ _ (by simp)
   ·rw[if_neg ha]at hs;unfold qiE at hs;have e12:=qm5 T hU b x.Account hb
    have e39:=qyw T hV hU b x.Account e.Booked hb
    have e767:=qK8 T hU hQ b.Blocks.l b.Blocks.t x.Account e.Booked x.Amount hbl
    generalize (qb6 b x.Account).getD .zero=acc at *
    generalize (qb6 b x.Account).isSome=s at *
    generalize qg6 b x.Account e.Booked=ac at *
    generalize qjp b.Blocks.l x.Account e.Booked x.Amount=de at *
    generalize D x=n at *
    cases s with
    |false =>
     simp at hs;simp[qil,h1,hlt,h3,hxe,ha,zzj,e12];rw[hs]
    |true =>
     cases ac with
     |false =>
      simp at hs;simp[qil,h1,hlt,h3,hxe,ha,zzj,e12,e39];rw[hs]
     |true =>
      cases de with
      |true =>
       simp at hs;simp[qil,h1,hlt,h3,hxe,ha,zzj,e12,e39,e767];rw[hs]
      |false =>
       by_cases hp:0<x.Amount
       ·by_cases hn:n=0
        ·subst hn;simp at hs;simp[qil,h1,hlt,h3,hxe,ha,zzj,e12,e39,e767,hp,e768];exact hx' hs _ _ (by simp)
        ·have gn:=qac hn
         simp[hp,hn]at hs;simp[qil,h1,hlt,h3,hxe,ha,zzj,e12,e39,e767,hp,e768,hn,gn,bne];rw[hs]
       ·simp[hp]at hs;simp[qil,h1,hlt,h3,hxe,ha,zzj,e12,e39,e767,hp];exact hx' hs _ _ (by simp)
  ·have:i=nl.length:=by omega
   subst this;rw[zzF (zzt _),qaE]at hs;have h1:¬((nl.length:Int)<nl.length):=by omega
   simp[qil];rw[hs]
 ·have g:=qac h0
  rw[if_neg h0];simp[F674,Fr.ofArgs,h0,g,bne]
theorem qIO(T:Tab)(h:HEx T)(hF:HF5 T)(h11:H11 T)(b:ABooks)(hb:b.ok)(hg:qgX b=false)(id day am:Int):∃n:Int,T.val 858 [b.dv,((qb1 b id day).getD .zero).dv,I id,I day,I am]=some (.d (I n),false)∧T.val 1024 [b.dv,((qb1 b id day).getD .zero).dv,I id,I day,I am]=some (.d (I n),false):=by
 obtain⟨ho,hl⟩:=qH9 hb id day;have hc:∀r∈((qb1 b id day).getD .zero).Rules.l,qap r.Amount.dv 100≤100:=by
  cases hp:qb1 b id day with
  |none=>exact fun r hr=>(by cases hr)
  |some p=>exact ((qAP hg).1 p (qH7 hp)).2.2
 obtain⟨vs,o,o',e1,e2,-⟩:=h.vars;haveI:Nonempty (AValue×Int):=⟨(⟨0,0⟩,0)⟩
 obtain⟨Q,hQ⟩:=qg9 (P:=fun (r:ARule) (q:AValue×Int)=>T.val 916 [r.Amount.dv,.l (K1 2) (vs.map AVar.dv) false,.l (K1 2) ((qbg b id day am).1.map V2) (qbg b id day am).1.isEmpty]=some (qam q)∧T.val 1031 [r.Amount.dv,.l (K1 2) (vs.map AVar.dv) false,.l (K1 2) ((qbg b id day am).1.map V2) (qbg b id day am).1.isEmpty]=some (qam q)) (fun r hr=>by
  obtain⟨V,a,a',q,k1,k2,k3,k4⟩:=qJn T h r.Amount (ho r hr).2.2 (hc r hr) b id day am (qbg b id day am).1.isEmpty;have hV:V = .l (K1 2) (vs.map AVar.dv) false:=by
   rw[e1]at k1;injection k1 with k1;injection k1 with k1 _;injection k1 with k1;exact k1.symm
  subst hV;exact⟨q,k3,k4⟩)
 exact⟨_,qLc T h hF b hb _ hl id day am _ o e1 Q (fun r hr=>(hQ r hr).1),qJz T h h11 b hb _ hl id day am _ o' e2 Q (fun r hr=>(hQ r hr).2)⟩
theorem qJw(T:Tab)(h:HEx T)(h11:H11 T)(b:ABooks)(hb:b.ok)(hbl:b.Blocks.l.length≤100000)(x:ALeg)(day n:Int)(e1024:T.val 1024 [b.dv,((qb1 b x.Account day).getD .zero).dv,I x.Account,I day,I x.Amount]=some (.d (I n),false)):T.val 1019 [b.dv,x.dv,I day]=some (.d (I (qiE b x day (qnS b x.Account day x.Amount n))),false):=by
 have e683:=qm6 T h.hN.hU b x.Account hb
 have e684:=qyG T h.hV h.hN.hU b x.Account day hb
 have e1021:=qJx T h.hN.hU h11 b.Blocks.l b.Blocks.t x.Account day x.Amount hbl
 have e1022:=qJy T h.hN.hU b x.Account day hb hbl
 have e1023:=qx7 T h.hN.hU b x.Account day hb
 unfold qiE qnS;generalize (qb6 b x.Account).getD .zero=acc at *
 generalize (qb6 b x.Account).isSome=s at *
 generalize qg6 b x.Account day=ac at *
 generalize qjp b.Blocks.l x.Account day x.Amount=de at *
 generalize (qb1 b x.Account day).getD .zero=v at *
 generalize qgO b x.Account day=a at *
 obtain⟨y,f⟩:=a;simp only at e1022⊢;rw[qab T (h11 1019 qgG rfl) rfl];cases s with
 |false=>simp[qgG,Fr.ofArgs,e683]
 |true =>
  cases ac with
  |false=>simp[qgG,Fr.ofArgs,e683,e684]
  |true =>
   cases de with
   |true=>simp[qgG,Fr.ofArgs,e683,e684,e1021]
   |false =>
    by_cases hp:0<x.Amount
    ·have hp':¬(x.Amount≤0):=by omega
     by_cases hf:f=0
     ·subst hf;by_cases hx:y<x.Amount
      ·simp[qgG,Fr.ofArgs,e683,e684,e1021,hp,hp',e1022,hx]
      ·simp[qgG,Fr.ofArgs,e683,e684,e1021,hp,hp',e1022,hx,e1023,e1024]
     ·have gf:=qac hf
      simp[qgG,Fr.ofArgs,e683,e684,e1021,hp,hp',e1022,hf,gf,bne]
    ·have hp':x.Amount≤0:=by omega
     simp[qgG,Fr.ofArgs,e683,e684,e1021,hp,hp']
theorem qB1(T:Tab)(h:HEx T)(hF:HF5 T)(h11:H11 T)(b:ABooks)(hb:b.ok)(hg:qgX b=false)(hbl:b.Blocks.l.length≤100000)(x:ALeg)(day:Int):∃d:Int,T.val 768 [b.dv,I x.Account,I day,I x.Amount]=some (.d (I d),false)∧T.val 1019 [b.dv,x.dv,I day]=some (.d (I (qiE b x day d)),false):=by
 obtain⟨n,e1,e2⟩:=qIO T h hF h11 b hb hg x.Account day x.Amount;exact⟨_,qK9 T h.hN.hU hF b hb hbl _ _ _ _ e1,qJw T h h11 b hb hbl x day n e2⟩
theorem qJu(T:Tab)(h:HEx T)(hN:HN T)(h11:H11 T)(b:ABooks)(e:AEntry)(hl:e.Legs.l.length≤1000)(D:ALeg→Int)(hD:∀x∈qf3 e.Legs.l,T.val 1019 [b.dv,x.dv,I e.Booked]=some (.d (I (qiE b x e.Booked (D x))),false)):T.val 1017 [b.dv,e.dv]=some (.d (I (if e.Auth=0 then qaE (qg7 b e.Booked D) (qf3 e.Legs.l)else 0)),false):=by
 rw[qab T (h11 1017 F1017 rfl) rfl];by_cases h0:e.Auth=0
 ·rw[if_pos h0];have e1018:=qJv T hN e.Legs.l e.Legs.t (by omega)
  have hnl:(qf3 e.Legs.l).length≤1000:=zzL (qwO e.Legs.l) hl
  generalize qf3 e.Legs.l=nl at *
  generalize hr:qaE (qg7 b e.Booked D) nl=R;simp[F1017,Fr.ofArgs,h0,e1018];refine qbB (fun i:Nat=>⟨[(6,.d (I i)),(5,.d (.l (K1 3) (nl.map ALeg.dv) false)),(3,.p 0 0 0),(2,.p 1 0 0)],[some (.box (K1 10) (.d e.dv)),some (.box (K1 22) (.d b.dv))]⟩) (fun i=>i≤nl.length∧R=qaE (qg7 b e.Booked D) (nl.drop i)) (fun i=>nl.length-i) ?_ 0 ⟨zzK _,hr.symm⟩ (by simp)
  rintro B-i ⟨hi,hs⟩ hx;by_cases hlt:i<nl.length
  ·have h1:(i:Int)<nl.length:=by omega
   have h3:=wr1 (i:=i) (by omega)
   have e1019:=hD nl[i] (zzs hlt)
   rw[zzz hlt,qaE]at hs;have hx':=fun h=>hx (i+1) ⟨by omega,h⟩ (by omega)
   clear hx
   generalize qaE (qg7 b e.Booked D) (nl.drop (i+1))=Z at hs hx';unfold qg7 at hs;by_cases ha:nl[i].Account<1000
   ·rw[if_pos ha,if_pos rfl]at hs;simp[qne,h1,hlt,h3,ha,zzj];exact hx' hs _ _ (by simp)
   ·rw[if_neg ha]at hs;generalize qiE b nl[i] e.Booked (D nl[i])=k at *
    by_cases hk:k=0
    ·subst hk;rw[if_pos rfl]at hs;simp[qne,h1,hlt,h3,ha,e1019,zzj];exact hx' hs _ _ (by simp)
    ·have gk:=qac hk
     rw[if_neg hk]at hs;simp[qne,h1,hlt,h3,ha,e1019,hk,gk,bne,zzj];rw[hs]
  ·have:i=nl.length:=by omega
   subst this;rw[zzF (zzt _),qaE]at hs;have h1:¬((nl.length:Int)<nl.length):=by omega
   simp[qne];rw[hs]
 ·have g:=qac h0
  rw[if_neg h0];simp[F1017,Fr.ofArgs,h0,g,bne]
theorem qBV(T:Tab)(h:HEx T)(hF:HF5 T)(hQ:HQ T)(hN:HN T)(hI:HI T)(h11:H11 T)(hl:T.val 1091 []=some (.d (.b true),false))(b:ABooks)(hb:b.ok)(e:AEntry):T.val 1086 [b.dv,e.dv]=some (.d (.b true),false):=by
 have e0:=qKc T h.hN.hU b hb
 rw[qab T (h11 1086 qi1 rfl) rfl];by_cases hg:qgX b=true
 ·rw[hg]at e0;simp[qi1,Fr.ofArgs,e0,hl]
 have hg':qgX b=false:=by simpa using hg
 rw[hg']at e0;have hbl:b.Blocks.l.length≤100000:=by
  simp only[qgX,zzD,zzE]at hg';omega
 by_cases h1:30<e.Legs.l.length
 ·have h2:(30:Int)<(e.Legs.l.length:Int):=by omega
  simp[qi1,Fr.ofArgs,e0,hl,h1,h2]
 have h2:¬((30:Int)<(e.Legs.l.length:Int)):=by omega
 obtain⟨D,hD⟩:=qg9 (P:=fun (x:ALeg) (d:Int)=>T.val 768 [b.dv,I x.Account,I e.Booked,I x.Amount]=some (.d (I d),false)∧T.val 1019 [b.dv,x.dv,I e.Booked]=some (.d (I (qiE b x e.Booked d)),false)) (l:=qf3 e.Legs.l) (fun x _=>qB1 T h hF h11 b hb hg' hbl x e.Booked)
 have e1:=qK1 T h.hN.hU h.hV hF hQ hN hI b hb hbl e (by omega) D (fun x hx=>(hD x hx).1)
 have e2:=qJu T h hN h11 b e (by omega) D (fun x hx=>(hD x hx).2)
 simp[qi1,Fr.ofArgs,e0,h1,h2,e1,e2,hl]
end
end
end Go.Sim
