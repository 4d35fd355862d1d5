/- Part 24 of the proof. -/
import Derived.Test.YtmaaepdecdhmnaaGreatDoorHB23
set_option linter.all false
namespace Go.Sim
set_option maxRecDepth 100000
set_option maxHeartbeats 8000000
section
attribute [local simp ↓] qgU qgS qgJ qgT qgG qgL qgH qgI sqK blK lpK qgZ qgX qgV qgY qgW qgz qgB qhC qga qf8 qf9 qgd qfC qfD qfn qfq qfB qfF qfp qfG qfv qfx qfy qfz qfE qfA qfo qfr qeK qfs qfw qf6 qf3 qfJ qfI qfR qfK qcZ qdA qfL qfM qg1 qeX qg0 qhz qe8 qfY qfZ qfS qfU qfT qeM qf7 qeN qfO qf2 qfW qfV qfQ qfP qf1 qf4 qfN qf0 qgA qeL qe7 qgq qe4 qb4 qgr qeO qeP qf5 qcs qhx qft qgb qgc qg5 qhA qg2 qgM qgN qgO qgP qgQ qgR qfu qgp qh0 qiZ qi0 qiX qiY qiV qhX qi4 qi1 qjA qi2 qjU qkA qfX
attribute [local simp] qck qg7 qg9 qgv qgw qgl qgm qhv qhw qgs qgt rd IOp.adds qao gh nid rgK rdS qgx qgy qhd qhe qhj qhk qhn qhi qhm qhl qfh qff qfg qhh qhg qgo qgn qhp qho qhq qhr qia qh8 qic qib qim qdk qiq qjL qjk qjK qjJ
section
attribute [local simp ↓] qcp qcq qb7 qdH qcN qew qbY qb1 qdj qdV qdW qdh qdi qb0 qdB qcd qd1 qd0 qd7 qej qdZ qeh qeg qcm qd3 qc2 qd4 qd6 qd5 qd8 qd2 qea qec qef qee qed qd9 qeb qei qdX qdY
attribute [local simp] qb9 qbr AA AP qaE qa8 chg qbj runs qa6 qbg PV.refs PV.AL IOp.okD IOp.barr qci Nat.testBit
attribute [local simp] gc Fr.keep qap qam qae PV.refs PV.AL qaG gcH qav Obj.refs PV.ren PV.Bt Obj.ren Heap.obj Fr.ren gh zzd
def qAF{R:Type}{a b c:DV}{q:PV->CE R}:bo (mkP (K1 3) [.d a,.d b,.d c]) (.h q)=q (.d (.a [a,b,c])):=rfl
def qki(s:Cv)(r:PV×CG):Prop:=∃(l:CF Ba) (t:CG) (line e:Int),r=(.t [.d (.l (K1 3) (l.map Ba.dv) t),.d (I line),.d (I e)],false)/\(qcg s=true->e=0/\∃a,l=[a]/\a.Kind=1/\a.Text=s)/\(e=0->∀a,l=[a]->a.Kind=1->a.Text=s->qcg s=true)
def qtT{s:Cv}(h:qcg s=true):s.length<=16/\s≠[]/\qmQ s:=by
 cases s with
 |nil=>cases h
 |cons c r=>
  simp only[qcg,zzf,zzq]at h;exact⟨h.2.2.2,by simp,c,r,rfl,h.1⟩
def qRE(T:Tab)(hT:HT T)(hC:HC T)(hW:HWd T)(s:Cv)(hs:s.length<=maxLen):Ans (qki s) (T.val 420 [.s s]):=by
 have hm:=mxl
 rw[qab T (hT 420 F420 rfl) rfl];by_cases hg:2048<s.length
 ·have g:(2048:Int)<s.length:=by omega
  simp[F420,Fr.Aa,g,hg];exact qbz (show qki s _ from⟨[],true,0,5,rfl,(λh=>by have:=(qtT h).1;omega),λh=>by cases h⟩)
 have g:¬((2048:Int)<s.length):=by omega
 simp[F420,Fr.Aa,g,hg];refine qnG (λq:Cv×CF Ba×Int=>⟨[(6,.d (I q.2.2)),(5,qai (K1 3) (q.2.1.map Ba.dv)),(0,.d (.s q.1))],qar (K1 3) (q.2.1.map Ba.dv)⟩) (λq=>q.1.length+q.2.1.length<=2048/\((q.2.1=[]/\q.1=s)\/∃a r,q.2.1=a::r/\(a.Kind=1->a.Text=s->qcg s=true)/\(qcg s=true->r=[]/\a.Kind=1/\a.Text=s/\q.1=[]))) (λq=>q.1.length) ?_ (s,[],1) ⟨by simp;omega,.inl ⟨rfl,rfl⟩⟩ (by simp[qai,qar])
 rintro B-⟨u,l,line⟩ ⟨hi,hJ⟩ hx;simp only at hi hJ hx⊢;have hx':=λ(s':Cv×CF Ba×Int)=>hx s'
 clear hx
 obtain⟨n,hn,e422,hn0⟩:=qRG T hT u (by omega)
 have e423:T.val 423 [.s (u.take n),.s [10]]=some (.d (.i .i64 (qi9 (u.take n) 10)),false):=by rw[hC.cnt];rfl
 have g1:(n:Int)<=u.length:=by omega
 generalize qi9 (u.take n) 10=cnt at *
 obtain⟨v,hv⟩:∃v,u.drop n=v:=⟨_,rfl⟩;have hvl:v.length<=u.length:=by rw[<-hv,zzJ];omega
 by_cases h0:v=[]
 ·subst h0;cases l with
  |nil=>
   have hu:u=s:=hJ.elim (λh=>h.2) λ⟨a,r,h,_⟩=>by cases h
   simp[qko,e422,e423,g1,hn,hv,qai,qar];exact qbz (show qki s _ from⟨[],_,_,_,rfl,(λh=>by
    have:=qtT h
    rw[hn0 (hu▸this.2.2),hu]at hv;exact absurd hv this.2.1),λ_ a h=>by cases h⟩)
  |cons a l=>
   have ht:(l.map Ba.dv).take l.length=l.map Ba.dv:=zzv (by simp)
   simp[qko,e422,e423,g1,hn,hv,qai,qar,ht,qaK,pur,qaW,PV.AX,PV.AV,DV.AX,DV.AV];obtain⟨q1,q2⟩:(a.Kind=1->a.Text=s->qcg s=true)/\(qcg s=true->l=[]/\a.Kind=1/\a.Text=s/\u=[]):=hJ.elim (λh=>by cases h.1) λ⟨a',r',h,h1,h2⟩=>by cases h;exact⟨h1,h2⟩
   exact qbz (show qki s _ from⟨a::l,_,_,_,rfl,(λh=>by
    obtain⟨r1,r2,r3,-⟩:=q2 h;exact⟨rfl,a,by rw[r1],r2,r3⟩),λ_ b h=>by cases h;exact q1⟩)
 have gv:=qhu h0
 obtain⟨rr,e424,k,t,e,hrr,hte,hnm1,hnm2⟩:=qRH T hT hC hW v h0 (by omega)
 have hus:l=[]->u=s:=λhl=>hJ.elim (λh=>h.2) λ⟨a,r,h,_⟩=>by rw[hl]at h;cases h
 have hvs:l=[]->qcg s=true->v=s:=λhl h=>by
  have:=qtT h
  rw[hn0 (hus hl▸this.2.2),hus hl]at hv;exact hv.symm
 have hno:l≠[]->qcg s=false:=λhl=>by
  cases hq:qcg s with
  |false=>rfl
  |true=>
   exfalso
   rcases hJ with h|⟨a,r,_,_,h⟩
   ·exact hl h.1
   ·rw[(h hq).2.2.2]at hv;exact h0 (by rw[<-hv];simp)
 rw[hrr]at e424;unfold qhB at e424;by_cases he:e=0
 ·subst he;obtain⟨t0,tl⟩:=hte rfl;have t1:t.length≠0:=λh=>t0 (List.length_eq_zero_iff.1 h)
  have g2:(t.length:Int)<=v.length:=by omega
  obtain⟨ln,hln⟩:∃ln,IntKind.i64.wrap (line+cnt)=ln:=⟨_,rfl⟩;have hx2:=hx' (v.drop t.length,l++[⟨k,ln,t⟩],ln) ⟨by simp only[zzJ,zzp,zzn,List.length_nil];omega,.inr (by
   cases l with
   |nil=>
    refine⟨⟨k,ln,t⟩,[],rfl,(λhk ht=>?_),λh=>?_⟩
    ·simp only at hk ht;have hu:=hus rfl
     subst hu;have hl2:u.length<=v.length:=by rw[<-ht];exact tl
     have hn1:n=0:=by rw[<-hv,zzJ]at hl2;have:=List.length_pos_iff.2 t0;rw[ht]at this;omega
     subst hn1;rw[<-hv]at hnm2;exact hnm2 rfl hk ht
    ·have hvs:=hvs rfl h
     obtain⟨r1,r2,-⟩:=hnm1 (by rw[hvs];exact h)
     exact⟨rfl,r1,by rw[<-hvs];exact r2,by rw[r2];simp⟩
   |cons a l=>
    refine⟨a,l++[⟨k,ln,t⟩],rfl,?_,λh=>by rw[hno (by simp)]at h;cases h⟩
    rcases hJ with h|⟨a',r',h,h1,-⟩
    ·cases h.1
    ·cases h;exact h1)⟩ (by simp only[zzJ];omega)
  clear hx'
  have ed:Ba.dv ⟨k,ln,t⟩=.a [I k,I ln,.s t]:=rfl
  simp only[List.map_append,zzu,List.map_nil,ed]at hx2;cases l with
  |nil=>
   simp only[List.map_nil,List.nil_append,qai,qar]at hx2⊢;simp[qko,e422,e423,g1,hn,hv,h0,gv,e424,hln,g2,tl,qhf,qgk,qAF,putAt,qau,qaQ,qaw,qbZ,List.take_length];exact hx2 _ _ (by simp)
  |cons a l=>
   simp only[zzu,List.cons_append,qai,qar]at hx2⊢;simp only[zzn]at hi;have h5:(l.length+1+1)*32<=140737488355328:=by omega
   have ht:(l.map Ba.dv).take l.length=l.map Ba.dv:=zzv (by simp)
   simp[qko,e422,e423,g1,hn,hv,h0,gv,e424,hln,g2,tl,h5,ht,qhf,qgk,qAF,putAt,qau,qaQ,qaw,qbZ,List.take_length];exact hx2 _ _ (by simp)
 ·have ge:=qad he
  cases l with
  |nil=>
   simp[qko,e422,e423,g1,hn,hv,h0,gv,e424,he,ge,bne,qai,qar];exact qbz (show qki s _ from⟨[],true,_,_,rfl,(λh=>absurd (hnm1 (by rw[hvs rfl h];exact h)).2.2 he),λh=>absurd h he⟩)
  |cons a l=>
   simp[qko,e422,e423,g1,hn,hv,h0,gv,e424,he,ge,bne,qai,qar];exact qbz (show qki s _ from⟨[],true,_,_,rfl,(λh=>by rw[hno (by simp)]at h;cases h),λh=>absurd h he⟩)
def qRB(T:Tab)(hT:HT T)(hC:HC T)(hW:HWd T)(s:Cv)(hs:s.length<=maxLen):T.val 415 [.s s]=some (.d (.b (qcg s)),false):=by
 obtain⟨r,e420,l,t,line,e,hr,k1,k2⟩:=qRE T hT hC hW s hs;rw[hr]at e420;cases hn:qcg s with
 |true=>
  obtain⟨rfl,a,rfl,ha,hb⟩:=k1 hn;rw[qab T (hT 415 qdQ rfl) rfl];simp[qdQ,Fr.Aa,e420,ha,hb]
 |false=>
  rw[qab T (hT 415 qdQ rfl) rfl];by_cases he:e=0
  ·subst he;cases l with
   |nil=>simp[qdQ,Fr.Aa,e420]
   |cons a l=>
    cases l with
    |nil=>
     by_cases hk:a.Kind=1
     ·have ht:¬a.Text=s:=λh=>by have:=k2 rfl a rfl hk h;rw[hn]at this;cases this
      have gt:=qhu ht
      simp[qdQ,Fr.Aa,e420,hk,ht,gt]
     ·have gk:=qad hk
      simp[qdQ,Fr.Aa,e420,hk,gk]
    |cons b l=>
     have g1:((l.length:Int)+1+1==1)=false:=qad (by omega)
     have g2:¬((l.length:Int)+1+1=1):=by omega
     simp[qdQ,Fr.Aa,e420,g1,g2]
  ·have ge:=qad he
   simp[qdQ,Fr.Aa,e420,he,ge]
def hnm(T:Tab)(hT:HT T)(hC:HC T)(hW:HWd T):HNm T:=λs hs=>⟨_,qRB T hT hC hW s hs⟩
def qcb(s:Cv):CF Au->Int×Int
 |[]=>(0,4)
 |v::r=>if v.Name=s then (if qcP v.Typ=true then (v.Typ,0)else (0,3))else qcb s r
def qDz(s:Cv):∀(a b:CF Au),(∀v∈a,v.Name≠s)->qcb s (a++b)=qcb s b
 |[],_,_=>rfl
 |v::a,b,h=>by
  rw[List.cons_append,qcb,if_neg (h v (by simp))]
  exact qDz s a b λw hw=>h w (by simp[hw])
def qvT(s:Cv):∀(a:CF Au),(∀v∈a,v.Name≠s)->qcb s a=(0,4)
 |[],_=>rfl
 |v::a,h=>by
  rw[qcb,if_neg (h v (by simp))]
  exact qvT s a λw hw=>h w (by simp[hw])
def qvt{α:Type}(l:CF α)(i:Nat)(h:i<l.length):l=l.take i++l[i]::l.drop (i+1):=by
 rw[List.getElem_cons_drop,List.take_append_drop]
def qJ1(T:Tab)(hT:HT T)(s:Cv)(vs:CF Au)(t:CG)(hn:vs.length<=1000){k:KC (PV×CG)}{r:Cz}{fr:Fr}{H:CP}
  (he:qcb s vs=(0,4)->k (.exit 0) [(11,.d (.b false)),(10,.d (I vs.length)),(9,.d (I vs.length)),(8,.d (.l (K1 2) (vs.map Au.dv) t)),(0,.d (.s s))] []=r)
  (hr:∀fr J,fr.get 4=.d (I (qcb s vs).1)->fr.get 5=.d (I (qcb s vs).2)->qan fr=[]->k .ret fr J=r)
  (h0:gc [0,8,9,10] 0 ⟨fr,H⟩=⟨[(10,.d (I 0)),(9,.d (I vs.length)),(8,.d (.l (K1 2) (vs.map Au.dv) t)),(0,.d (.s s))],[]⟩) :
  kC T.env 0 fr H (.h (.loop [0,8,9,10] qmI,k))=r:=by
 refine qc7 (λi:Nat=>⟨[(10,.d (I i)),(9,.d (I vs.length)),(8,.d (.l (K1 2) (vs.map Au.dv) t)),(0,.d (.s s))],[]⟩) (λi=>i<=vs.length/\∀v∈vs.take i,v.Name≠s) (λi=>vs.length-i) ?_ 0 ⟨zzK _,by simp⟩ h0
 rintro B-i ⟨hi,ha⟩ hx;by_cases hlt:i<vs.length
 ·have h1:(i:Int)<vs.length:=by omega
  have h3:=wr1 (i:=i) (by omega)
  have e:=qDf T hT vs[i].Typ
  by_cases hs:vs[i].Name=s
  ·have hv:qcb s vs=if qcP vs[i].Typ=true then (vs[i].Typ,0)else (0,3):=by
    conv=>lhs;rw[qvt vs i hlt,qDz s _ _ ha,qcb,if_pos hs]
   rw[hv]at hr;cases hk:qcP vs[i].Typ with
   |true=>
    rw[hk]at e hr;simp only[if_true]at hr;simp[qmI,h1,hlt,hs,e,zzj,h3];exact hr _ _ (by simp[Fr.get]) (by simp[Fr.get]) (by simp[qan,gh])
   |false=>
    rw[hk]at e hr;simp only[zzg,if_false]at hr;simp[qmI,h1,hlt,hs,e,zzj,h3];exact hr _ _ (by simp[Fr.get]) (by simp[Fr.get]) (by simp[qan,gh])
  ·have g:=qhu hs
   have hx':=hx (i+1) ⟨by omega,by
    rw[zzw hlt];intro v hv;rcases zzB.1 hv with hv|hv
    ·exact ha v hv
    ·rw[zzH.1 hv];exact hs⟩ (by omega)
   simp[qmI,h1,hlt,hs,g,e,zzj,h3];exact hx' _ _ (by simp)
 ·have:i=vs.length:=by omega
  subst this;rw[List.take_length]at ha;have he':=he (qvT s vs ha)
  have h1:¬((vs.length:Int)<vs.length):=by omega
  simp[qmI];exact he'
def qRz(T:Tab)(hT:HT T)(s:Cv)(vs:CF Au)(t:CG)(hn:vs.length<=1000):T.val 410 [.s s,.l (K1 2) (vs.map Au.dv) t]=some (two (qcb s vs)):=by
 have lp:=λk r fr H=>@qJ1 T hT s vs t hn k r fr H
 rw[qab T (hT 410 F410 rfl) rfl];unfold two;simp[F410,Fr.Aa];refine lp _ _ _ _ (λh=>?_) (λfr J h4 h5 hg=>?_) (by simp)
 ·rw[h];simp
 ·simp[h4,h5,hg]
def qbc{α:Type}(g:α->Int):CF α->Int
 |[]=>0
 |a::r=>if g a=0 then qbc g r else g a
def qsD{α:Type}(g:α->Int):∀(a b:CF α),(∀v∈a,g v=0)->qbc g (a++b)=qbc g b
 |[],_,_=>rfl
 |v::a,b,h=>by
  rw[List.cons_append,qbc,if_pos (h v (by simp))]
  exact qsD g a b λw hw=>h w (by simp[hw])
def qjl{α:Type}(g:α->Int):∀(a:CF α),qbc g a=0↔∀v∈a,g v=0
 |[]=>by simp[qbc]
 |v::a=>by
  rw[qbc];by_cases h:g v=0
  ·rw[if_pos h,qjl g a];simp[h]
  ·rw[if_neg h];simp[h]
def qJY(T:Tab)(l:CF Ag)(t:CG)(g:Ag->Int×Int)(V w:DV)(hg:∀a∈l,T.val 400 [a.dv,V]=some (two (g a)))(hn:l.length*56<=140737488355328){k:KC (PV×CG)}{r:Cz}{fr:Fr}{H:CP}
  (he:qbc (λa=>(g a).2) l=0->k (.exit 1) [(33,.d (.b false)),(32,.d (I l.length)),(31,.d (I l.length)),(30,.d (.l (K1 4) (l.map Ag.dv) t)),(6,qai K0 (l.map λa=>I (g a).1)),(2,pB 0 (l.map λa=>I (g a).1)),(1,.d V)] (qbx K0 [some (.box (K1 4) (.d w))] (l.map λa=>I (g a).1))=r)
  (hr:qbc (λa=>(g a).2) l≠0->∀fr J,fr.get 4=.d (I 0)->fr.get 5=.d (I (qbc (λa=>(g a).2) l))->qan fr=[]->k .ret fr J=r)
  (h0:gc [1,2,6,30,31,32] 0 ⟨fr,H⟩=⟨[(32,.d (I 0)),(31,.d (I l.length)),(30,.d (.l (K1 4) (l.map Ag.dv) t)),(6,.d (.l K0 [] true)),(2,.p 0 0 0),(1,.d V)],[some (.box (K1 4) (.d w))]⟩) :
  kC T.env 0 fr H (.h (.loop [1,2,6,30,31,32] qkn,k))=r:=by
 refine qc7 (λi:Nat=>⟨[(32,.d (I i)),(31,.d (I l.length)),(30,.d (.l (K1 4) (l.map Ag.dv) t)),(6,qai K0 ((l.take i).map λa=>I (g a).1)),(2,pB 0 ((l.take i).map λa=>I (g a).1)),(1,.d V)],qbx K0 [some (.box (K1 4) (.d w))] ((l.take i).map λa=>I (g a).1)⟩) (λi=>i<=l.length/\∀v∈l.take i,(g v).2=0) (λi=>l.length-i) ?_ 0 ⟨zzK _,by simp⟩ (by rw[h0];rfl)
 rintro B-i ⟨hi,ha⟩ hx;by_cases hlt:i<l.length
 ·have h1:(i:Int)<l.length:=by omega
  have h3:=wr1 (i:=i) (by omega)
  have e:=hg l[i] (zzs hlt)
  unfold two at e;have hl:((l.take i).map λa=>I (g a).1).length<=i:=by simp;omega
  by_cases hs:(g l[i]).2=0
  ·have hx':=hx (i+1) ⟨by omega,by
    rw[zzw hlt];intro v hv;rcases zzB.1 hv with hv|hv
    ·exact ha v hv
    ·rw[zzH.1 hv];exact hs⟩ (by omega)
   rw[qvC (λa:Ag=>I (g a).1) l i hlt]at hx'
   rw[hs]at e;generalize (l.take i).map (λa=>I (g a).1)=o at *
   cases o with
   |nil=>
    simp only[qai,qbx,pB,List.nil_append]at hx'⊢;simp[qkn,h1,hlt,h3,e,zzj];exact hx' _ _ (by simp)
   |cons x o=>
    simp only[qai,qbx,pB,List.cons_append]at hx'⊢;simp only[zzn]at hl;have h5:(o.length+1+1)*8<=140737488355328:=by omega
    have ht:o.take o.length=o:=zzv (by simp)
    simp[qkn,h1,hlt,h3,h5,ht,e,zzj];exact hx' _ _ (by simp)
  ·have hf:qbc (λa=>(g a).2) l=(g l[i]).2:=by
    conv=>lhs;rw[qvt l i hlt,qsD _ _ _ ha,qbc,if_neg hs]
   rw[hf]at hr;have hr':=hr hs
   have gs:=qad hs
   generalize (l.take i).map (λa=>I (g a).1)=o at *
   cases o with
   |nil=>
    simp only[qai,qbx,pB]at⊢;simp[qkn,h1,hlt,h3,e,hs,gs,bne,zzj];exact hr' _ _ (by simp[Fr.get]) (by simp[Fr.get]) (by simp[qan,gh])
   |cons x o=>
    simp only[qai,qbx,pB]at⊢;simp[qkn,h1,hlt,h3,e,hs,gs,bne,zzj];exact hr' _ _ (by simp[Fr.get]) (by simp[Fr.get]) (by simp[qan,gh])
 ·have:i=l.length:=by omega
  subst this;rw[List.take_length]at ha⊢;have he':=he ((qjl _ _).2 ha)
  have h1:¬((l.length:Int)<l.length):=by omega
  simp[qkn];exact he'
def qtX(op:Int)(l:CF Ag)(g:Ag->Int×Int):Int×Int:=
 if qbc (λa=>(g a).2) l=0 then (if (qbH op (l.map λa=>(g a).1)).2=true then ((qbH op (l.map λa=>(g a).1)).1,0)else (0,3))else (0,qbc (λa=>(g a).2) l)
def qvK(T:Tab)(hT:HT T)(x:Ag)(vs:CF Au)(tv:CG)(hv:vs.length<=1000)(h:x.Op=1\/x.Op=2\/x.Op=3\/x.Op=4) :
  T.val 400 [x.dv,.l (K1 2) (vs.map Au.dv) tv]=some (two (if x.Op=4 then qcb x.S vs else (x.Op,0))):=by
 have e:=qRz T hT x.S vs tv hv
 unfold two at *
 rw[qab T (hT 400 F400 rfl) rfl];rcases h with h|h|h|h
 ·rw[h,if_neg (by decide)]
  simp[F400,Fr.Aa,h]
 ·rw[h,if_neg (by decide)]
  simp[F400,Fr.Aa,h]
 ·rw[h,if_neg (by decide)]
  simp[F400,Fr.Aa,h]
 ·rw[h,if_pos rfl];simp[F400,Fr.Aa,h,e]
def qDe(T:Tab)(hT:HT T)(hA:HA T)(x:Ag)(l:CF Ag)(h2:x.A8.l=l.map Ag.dv)(hn:l.length*56<=140737488355328)(V:DV)(g:Ag->Int×Int)(hg:∀a∈l,T.val 400 [a.dv,V]=some (two (g a)))(n1:x.Op≠1)(n2:x.Op≠2)(n3:x.Op≠3)(n4:x.Op≠4) :
  T.val 400 [x.dv,V]=some (two (qtX x.Op l g)):=by
 have lp:=λw k r fr H=>@qJY T l x.A8.t g V w hg hn k r fr H
 have hm:=mxl
 have e411:=λb=>qqT T hT hA x.Op (l.map λa=>(g a).1) b (by rw[zzo,hm];omega)
 simp only[List.map_map]at e411;have hmm:((λn=>I n)∘λa:Ag=>(g a).1)=λa:Ag=>I (g a).1:=rfl
 rw[hmm]at e411;have g1:=qad n1
 have g2:=qad n2
 have g3:=qad n3
 have g4:=qad n4
 unfold qtX;generalize qbH x.Op (l.map λa=>(g a).1)=p at *
 obtain⟨w,ok⟩:=p;unfold qa1 at e411;simp only at e411⊢;obtain⟨o,m,s,a⟩:=x;obtain⟨a,t⟩:=a;simp only at h2 lp e411 g1 g2 g3 g4 n1 n2 n3 n4⊢;subst h2;rw[qab T (hT 400 F400 rfl) rfl];unfold two;simp[F400,Fr.Aa,g1,g2,g3,g4,n1,n2,n3,n4];refine lp (Ag.dv ⟨o,m,s,⟨l.map Ag.dv,t⟩⟩) _ _ _ _ (λh=>?_) (λh fr J h4 h5 hg'=>?_) (by simp)
 ·rw[if_pos h];cases ho:l.map (λa=>I (g a).1)with
  |nil=>
   have ef:=e411 true
   rw[ho]at ef;cases ok with
   |false=>simp[qai,qbx,pB,ef]
   |true=>simp[qai,qbx,pB,ef]
  |cons y o'=>
   have ef:=e411 false
   rw[ho]at ef;have ht:o'.take o'.length=o':=zzv (by simp)
   cases ok with
   |false=>simp[qai,qbx,pB,ht,qaK,pur,qaW,PV.AX,PV.AV,DV.AX,DV.AV,ef]
   |true=>simp[qai,qbx,pB,ht,qaK,pur,qaW,PV.AX,PV.AV,DV.AX,DV.AV,ef]
 ·rw[if_neg h];simp[h4,h5,hg']
def qng(x:Int) : -9223372036854775808<=(qbv x).1/\(qbv x).1<9223372036854775808:=by unfold qbv;split<;>simp<;>omega
def qoh(x:Int) : -9223372036854775808<=IntKind.i64.wrap x/\IntKind.i64.wrap x<9223372036854775808:=by rw[wI];omega
def qPr(a b:Ah) : -9223372036854775808<=(qjN a b).1/\(qjN a b).1<9223372036854775808:=by
 unfold qjN;split
 ·split
  ·decide
  ·exact qoh _
 ·split
  ·decide
  ·split<;>exact qng _
def qFi(op:Int)(a b:Ah) : -9223372036854775808<=(qkE op a b).1/\(qkE op a b).1<9223372036854775808:=by
 unfold qkE qnM;split
 ·exact qng _
 ·split
  ·exact qng _
  ·split
   ·split<;>exact qng _
   ·split
    ·decide
    ·exact qPr a b
def qFA(op:Int):∀vs:CF Ah,-9223372036854775808<=(clP op vs).1/\(clP op vs).1<9223372036854775808
 |[]=>by simp[clP]
 |[_]=>qng _
 |[a,b]=>qFi op a b
 |_::_::_::_=>by simp[clP]
def qjF{v:Ah}(h:okV v=true)(h5:v.Typ=5):v.N=0\/v.N=1:=by
 unfold okV at h;rw[h5]at h;simpa using h
def qFx(op a b:Int)(ha : -9223372036854775808<=a/\a<9223372036854775808)(hb : -9223372036854775808<=b/\b<9223372036854775808) : -9223372036854775808<=qgf op a b/\qgf op a b<9223372036854775808:=by
 have:=qoh (a*b)
 unfold qgf;repeat' split
 all_goals omega
def qFv(op:Int)(vs:CF Ah)(hi:∀v∈vs,v.i)(hk:∀v∈vs,okV v=true)(h:(qbH op (vs.map (·.Typ))).2=true)(ho:op<5\/9<op) :
  (-9223372036854775808<=chP op vs/\chP op vs<9223372036854775808)/\((qbH op (vs.map (·.Typ))).1=5->chP op vs=0\/chP op vs=1):=by
 unfold qbH at h⊢;by_cases ha:(vs.map (·.Typ)).all qcP=true
 ·rw[if_pos ha]at h⊢;match vs,hi,hk,h with
  |[],_,_,h=>cases h
  |[a],hi,hk,h=>
   simp only[zzu,List.map_nil,chP]at h⊢;refine⟨qoh _,λ_=>?_⟩
   have ho2:(qcR op a.Typ).2=true:=by
    by_cases c:(qcR op a.Typ).2=true
    ·exact c
    ·rw[if_neg c]at h;cases h
   have h16:op=16:=by have:=qBa ho2;omega
   subst h16;have h5:a.Typ=5:=by simpa[qcR]using ho2
   rcases qjF (hk a (by simp)) h5 with e|e
   ·rw[e];exact .inr (by decide)
   ·rw[e];exact .inl (by decide)
  |[a,b],hi,hk,h=>
   simp only[zzu,List.map_nil,chP]at h⊢;have ia:=hi a (by simp)
   have ib:=hi b (by simp)
   unfold Ah.i at ia ib;refine⟨qFx op a.N b.N ia ib,λh5=>?_⟩
   have ho2:(qcE op a.Typ b.Typ).2=true:=by
    by_cases c:(qcE op a.Typ b.Typ).2=true
    ·exact c
    ·rw[if_neg c]at h;cases h
   rw[if_pos ho2]at h5;simp only at h5;unfold qcE at ho2 h5;by_cases h1:op=10\/op=11
   ·unfold qgf;rcases h1 with h1|h1<;>subst h1<;>simp<;>omega
   rw[if_neg h1]at ho2 h5;by_cases h2:op=12\/op=13
   ·unfold qgf;rcases h2 with h1|h1<;>subst h1<;>simp<;>omega
   rw[if_neg h2]at ho2 h5;by_cases h3:op=14\/op=15
   ·rw[if_pos h3]at ho2;have hb:a.Typ=b.Typ/\a.Typ=5:=by simpa using ho2
    have ka:=qjF (hk a (by simp)) hb.2
    have kb:=qjF (hk b (by simp)) (by rw[<-hb.1];exact hb.2)
    unfold qgf;rcases h3 with h1|h1<;>subst h1<;>rcases ka with ka|ka<;>rcases kb with kb|kb<;>rw[ka,kb]<;>decide
   rw[if_neg h3]at ho2 h5;by_cases h4:op=17\/op=18
   ·rw[if_pos h4]at ho2 h5;have hb:a.Typ=b.Typ/\a.Typ≠5:=by simpa using ho2
    exact absurd h5 hb.2
   rw[if_neg h4]at ho2 h5;have hv:arV op a.Typ b.Typ≠0:=by simpa using ho2
   have:=qwK hv
   omega
  |[a,b,c],hi,hk,h=>
   simp only[zzu,List.map_nil,chP]at h⊢;have ib:=hi b (by simp)
   have ic:=hi c (by simp)
   unfold Ah.i at ib ic;refine⟨by split<;>assumption,λh5=>?_⟩
   by_cases c':op=19/\a.Typ=5/\b.Typ=c.Typ
   ·rw[if_pos c']at h5;simp only at h5;have kb:=qjF (hk b (by simp)) h5
    have kc:=qjF (hk c (by simp)) (by rw[<-c'.2.2];exact h5)
    split<;>assumption
   ·rw[if_neg c']at h;cases h
  |_::_::_::_::_,_,_,h=>cases h
 ·rw[if_neg ha]at h;cases h
def qEU(op:Int)(vs:CF Ah)(hi:∀v∈vs,v.i)(h:(qbH op (vs.map (·.Typ))).2=true)(h0:(qeJ op vs).2=0) :
  (qeJ op vs).1.Typ=(qbH op (vs.map (·.Typ))).1/\(qeJ op vs).1.i/\((qbH op (vs.map (·.Typ))).1=5->(qeJ op vs).1.N=0\/(qeJ op vs).1.N=1):=by
 have hc:=qFv op vs hi
 unfold qeJ qkz at h0⊢;rw[if_neg (by rw[h];decide)]at h0⊢
 by_cases ha:vs.all okV=true
 ·have hk:∀v∈vs,okV v=true:=List.all_eq_true.1 ha
  rw[if_neg (by rw[ha];decide)]at h0⊢
  by_cases ho:op<5\/9<op
  ·obtain⟨c1,c2⟩:=hc hk h ho;rw[if_pos ho];exact⟨rfl,c1,c2⟩
  ·rw[if_neg ho]at h0⊢;by_cases hf:(clP op vs).2=0
   ·rw[if_pos hf]at h0⊢;by_cases hv:okV ⟨(qbH op (vs.map (·.Typ))).1,(clP op vs).1⟩=true
    ·rw[if_pos hv];exact⟨rfl,qFA op vs,λh5=>qjF hv h5⟩
    ·rw[if_neg hv]at h0;cases h0
   ·rw[if_neg hf]at h0;exact absurd h0 hf
 ·rw[if_pos (by simpa using ha)]at h0;cases h0
def qen(s:Cv):CF Au->CF Ah->Ah
 |v::r,w::q=>if v.Name=s then w else qen s r q
 |_,_=>⟨0,0⟩
def qxK(s:Cv):∀(vs:CF Au) (es:CF Ah) (i:Nat) (h:i<vs.length) (h':i<es.length),(∀v∈vs.take i,v.Name≠s)->vs[i].Name=s->qen s vs es=es[i]
 |v::vs,e::es,0,_,_,_,hs=>by
  rw[qen,if_pos (show v.Name=s from hs)];rfl
 |v::vs,e::es,i+1,h,h',ha,hs=>by
  rw[qen,if_neg (ha v (by simp))]
  exact qxK s vs es i (by simpa using h) (by simpa using h') (λw hw=>ha w (by simp[hw])) hs
def qKo(T:Tab)(x:Ag)(vs:CF Au)(es:CF Ah)(tv te:CG)(hn:vs.length<=1000)(hl:vs.length=es.length)(hf:(qcb x.S vs).2=0){k:KC (PV×CG)}{r:Cz}{fr:Fr}{H:CP}(z:DV)
  (hr:∀fr J,fr.get 6=.p 0 0 0->fr.get 7=.d (I 0)->qan fr=[]->k .ret fr (some (.box (K1 2) (.d (qen x.S vs es).dv))::J)=r)
  (h0:gc [1,2,3,6,36,37,38] 0 ⟨fr,H⟩=⟨[(38,.d (I 0)),(37,.d (I vs.length)),(36,.d (.l (K1 2) (vs.map Au.dv) tv)),(6,.p 0 0 0),(3,.p 1 0 0),(2,.d (.l (K1 2) (es.map Ah.dv) te)),(1,.d (.l (K1 2) (vs.map Au.dv) tv))],[some (.box (K1 2) (.d z)),some (.box (K1 4) (.d x.dv))]⟩) :
  kC T.env 0 fr H (.h (.loop [1,2,3,6,36,37,38] qrz,k))=r:=by
 refine qc7 (λi:Nat=>⟨[(38,.d (I i)),(37,.d (I vs.length)),(36,.d (.l (K1 2) (vs.map Au.dv) tv)),(6,.p 0 0 0),(3,.p 1 0 0),(2,.d (.l (K1 2) (es.map Ah.dv) te)),(1,.d (.l (K1 2) (vs.map Au.dv) tv))],[some (.box (K1 2) (.d z)),some (.box (K1 4) (.d x.dv))]⟩) (λi=>i<=vs.length/\∀v∈vs.take i,v.Name≠x.S) (λi=>vs.length-i) ?_ 0 ⟨zzK _,by simp⟩ h0
 rintro B-i ⟨hi,ha⟩ hx;by_cases hlt:i<vs.length
 ·have h1:(i:Int)<vs.length:=by omega
  have h1':(i:Int)<es.length:=by omega
  have hlt':i<es.length:=by omega
  have h3:=wr1 (i:=i) (by omega)
  by_cases hs:vs[i].Name=x.S
  ·rw[qxK x.S vs es i hlt hlt' ha hs]at hr;simp[qrz,h1,h1',hlt,hlt',hs,zzj,h3];exact hr _ _ (by simp[Fr.get]) (by simp[Fr.get]) (by simp[qan,gh])
  ·have g:=qhu hs
   have hx':=hx (i+1) ⟨by omega,by
    rw[zzw hlt];intro v hv;rcases zzB.1 hv with hv|hv
    ·exact ha v hv
    ·rw[zzH.1 hv];exact hs⟩ (by omega)
   simp[qrz,h1,hlt,hs,g,zzj,h3];exact hx' _ _ (by simp)
 ·exfalso
  have:i=vs.length:=by omega
  subst this;rw[List.take_length]at ha;rw[qvT x.S vs ha]at hf;cases hf
def qKp(T:Tab)(x:Ag)(l:CF Ag)(t:CG)(g:Ag->Ah×Int)(V E z:DV)(hg:∀a∈l,T.val 947 [a.dv,V,E]=some (qa9 (g a)))(hn:l.length*56<=140737488355328){k:KC (PV×CG)}{r:Cz}{fr:Fr}{H:CP}
  (he:qbc (λa=>(g a).2) l=0->k (.exit 3) [(85,.d (.b false)),(84,.d (I l.length)),(83,.d (I l.length)),(82,.d (.l (K1 4) (l.map Ag.dv) t)),(12,qai (K1 2) (l.map λa=>(g a).1.dv)),(6,pB 0 (l.map λa=>(g a).1.dv)),(3,pB 1 (l.map λa=>(g a).1.dv)),(2,.d E),(1,.d V)] (qbx (K1 2) [some (.box (K1 2) (.d z)),some (.box (K1 4) (.d x.dv))] (l.map λa=>(g a).1.dv))=r)
  (hr0:qbc (λa=>(g a).2) l≠0->∀fr J,fr.get 6=.p 0 0 0->fr.get 7=.d (I (qbc (λa=>(g a).2) l))->qan fr=[]->k .ret fr (some (.box (K1 2) (.d (.a [I 0,I 0])))::J)=r)
  (hr1:qbc (λa=>(g a).2) l≠0->∀fr s J,fr.get 6=.p 1 0 0->fr.get 7=.d (I (qbc (λa=>(g a).2) l))->qan fr=[]->k .ret fr (s::some (.box (K1 2) (.d (.a [I 0,I 0])))::J)=r)
  (h0:gc [1,2,3,6,12,82,83,84] 0 ⟨fr,H⟩=⟨[(84,.d (I 0)),(83,.d (I l.length)),(82,.d (.l (K1 4) (l.map Ag.dv) t)),(12,.d (.l (K1 2) [] true)),(6,.p 0 0 0),(3,.p 1 0 0),(2,.d E),(1,.d V)],[some (.box (K1 2) (.d z)),some (.box (K1 4) (.d x.dv))]⟩) :
  kC T.env 0 fr H (.h (.loop [1,2,3,6,12,82,83,84] qku,k))=r:=by
 refine qc7 (λi:Nat=>⟨[(84,.d (I i)),(83,.d (I l.length)),(82,.d (.l (K1 4) (l.map Ag.dv) t)),(12,qai (K1 2) ((l.take i).map λa=>(g a).1.dv)),(6,pB 0 ((l.take i).map λa=>(g a).1.dv)),(3,pB 1 ((l.take i).map λa=>(g a).1.dv)),(2,.d E),(1,.d V)],qbx (K1 2) [some (.box (K1 2) (.d z)),some (.box (K1 4) (.d x.dv))] ((l.take i).map λa=>(g a).1.dv)⟩) (λi=>i<=l.length/\∀v∈l.take i,(g v).2=0) (λi=>l.length-i) ?_ 0 ⟨zzK _,by simp⟩ (by rw[h0];rfl)
 rintro B-i ⟨hi,ha⟩ hx;by_cases hlt:i<l.length
 ·have h1:(i:Int)<l.length:=by omega
  have h3:=wr1 (i:=i) (by omega)
  have e:=hg l[i] (zzs hlt)
  unfold qa9 at e;have hl:((l.take i).map λa=>(g a).1.dv).length<=i:=by simp;omega
  by_cases hs:(g l[i]).2=0
  ·have hx':=hx (i+1) ⟨by omega,by
    rw[zzw hlt];intro v hv;rcases zzB.1 hv with hv|hv
    ·exact ha v hv
    ·rw[zzH.1 hv];exact hs⟩ (by omega)
   rw[qvC (λa:Ag=>(g a).1.dv) l i hlt]at hx'
   rw[hs]at e;generalize (l.take i).map (λa=>(g a).1.dv)=o at *
   cases o with
   |nil=>
    simp only[qai,qbx,pB,List.nil_append]at hx'⊢;simp[qku,h1,hlt,h3,e,zzj];exact hx' _ _ (by simp)
   |cons y o=>
    simp only[qai,qbx,pB,List.cons_append]at hx'⊢;simp only[zzn]at hl;have h5:(o.length+1+1)*16<=140737488355328:=by omega
    have ht:o.take o.length=o:=zzv (by simp)
    simp[qku,h1,hlt,h3,h5,ht,e,zzj];exact hx' _ _ (by simp)
  ·have hf:qbc (λa=>(g a).2) l=(g l[i]).2:=by
    conv=>lhs;rw[qvt l i hlt,qsD _ _ _ ha,qbc,if_neg hs]
   rw[hf]at hr0 hr1;have gs:=qad hs
   generalize (l.take i).map (λa=>(g a).1.dv)=o at *
   cases o with
   |nil=>
    have hr':=hr0 hs
    simp only[qai,qbx,pB]at⊢;simp[qku,h1,hlt,h3,e,hs,gs,bne,zzj,↓qay,↓qaC,↓qaB,putAt,mkA,qaf,qau,qaQ,qaw];exact hr' _ _ (by simp[Fr.get]) (by simp[Fr.get]) (by simp[qan,gh])
   |cons y o=>
    have hr':=hr1 hs
    simp only[qai,qbx,pB]at⊢;simp[qku,h1,hlt,h3,e,hs,gs,bne,zzj,↓qay,↓qaC,↓qaB,putAt,mkA,qaf,qau,qaQ,qaw];exact hr' _ _ _ (by simp[Fr.get]) (by simp[Fr.get]) (by simp[qan,gh])
 ·have:i=l.length:=by omega
  subst this;rw[List.take_length]at ha⊢;have he':=he ((qjl _ _).2 ha)
  have h1:¬((l.length:Int)<l.length):=by omega
  simp[qku];exact he'
def qHk{n:Int}(h:inK .i64 n) : -9223372036854775808<=n/\n<=9223372036854775807:=by
 unfold inK at h;simp[Lit.wf]at h;simp[IntKind.min,IntKind.max,IntKind.signed,IntKind.bits]at h;omega
def qQs(v:Ah)(f:Int):PV.AX (.t [.d v.dv,.d (I f)])=true:=rfl
def qlt(vs:CF Au)(es:CF Ah):Prop:=vs.length=es.length/\∀i (h:i<vs.length) (h':i<es.length),es[i].Typ=vs[i].Typ/\es[i].i/\okV es[i]=true
def qGi{v:Au}{w:Ah}{vs:CF Au}{es:CF Ah}(h:qlt (v::vs) (w::es)):qlt vs es:=
 ⟨by simpa using h.1,λi hi hi'=>h.2 (i+1) (Nat.succ_lt_succ hi) (Nat.succ_lt_succ hi')⟩
def qDA(s:Cv):∀(vs:CF Au) (es:CF Ah),qlt vs es->(qcb s vs).2=0->(qen s vs es).Typ=(qcb s vs).1/\(qen s vs es).i/\((qcb s vs).1=5->(qen s vs es).N=0\/(qen s vs es).N=1)
 |[],_,_,h=>by cases h
 |v::vs,[],hE,_=>by have:=hE.1;simp at this
 |v::vs,w::es,hE,h=>by
  rw[qcb]at h⊢;rw[qen];by_cases hs:v.Name=s
  ·rw[if_pos hs]at h⊢;rw[if_pos hs];obtain⟨e1,e2,e3⟩:=hE.2 0 (by simp) (by simp)
   simp only[List.getElem_cons_zero]at e1 e2 e3;by_cases hk:qcP v.Typ=true
   ·rw[if_pos hk];exact⟨e1,e2,λh5=>qjF e3 (by rw[e1];exact h5)⟩
   ·rw[if_neg hk]at h;cases h
  ·rw[if_neg hs]at h⊢;rw[if_neg hs];exact qDA s vs es (qGi hE) h
def qSw(T:Tab)(hT:HT T)(x:Ag)(V E:DV)(h:x.Op=1\/x.Op=2\/x.Op=3):T.val 947 [x.dv,V,E]=some (qa9 (⟨x.Op,x.N⟩,0)):=by
 rw[qab T (hT 947 F947 rfl) rfl];rcases h with h|h|h
 ·rw[h];simp[F947,Fr.Aa,h,↓qay,↓qaC,↓qaB,putAt,mkA,qaf,qau,qaQ,qaw,qa9,Ah.dv]
 ·rw[h];simp[F947,Fr.Aa,h,↓qay,↓qaC,↓qaB,putAt,mkA,qaf,qau,qaQ,qaw,qa9,Ah.dv]
 ·rw[h];simp[F947,Fr.Aa,h,↓qay,↓qaC,↓qaB,putAt,mkA,qaf,qau,qaQ,qaw,qa9,Ah.dv]
def qSy(T:Tab)(hT:HT T)(x:Ag)(vs:CF Au)(es:CF Ah)(tv te:CG)(hn:vs.length<=1000)(hl:vs.length=es.length)(h:x.Op=4)(hf:(qcb x.S vs).2=0):T.val 947 [x.dv,.l (K1 2) (vs.map Au.dv) tv,.l (K1 2) (es.map Ah.dv) te]=some (qa9 (qen x.S vs es,0)):=by
 have lp:=λk r fr H=>@qKo T x vs es tv te hn hl hf k r fr H (.a [I 0,I 0])
 rw[qab T (hT 947 F947 rfl) rfl];simp[F947,Fr.Aa,h];refine lp _ _ _ _ (λfr J h6 h7 hg=>?_) (by simp)
 simp[h6,h7,hg,qa9]
def qSx(T:Tab)(hT:HT T)(hA:HA T)(x:Ag)(l:CF Ag)(h2:x.A8.l=l.map Ag.dv)(hn:l.length*56<=140737488355328)(V E:DV)(g:Ag->Ah×Int)(hg:∀a∈l,T.val 947 [a.dv,V,E]=some (qa9 (g a)))(hi:∀a∈l,(g a).2=0->(g a).1.i)(n1:x.Op≠1)(n2:x.Op≠2)(n3:x.Op≠3)(n4:x.Op≠4)(n5:x.Op≠19) :
  T.val 947 [x.dv,V,E]=some (qa9 (if qbc (λa=>(g a).2) l=0 then qeJ x.Op (l.map λa=>(g a).1)else (⟨0,0⟩,qbc (λa=>(g a).2) l))):=by
 have lp:=λk r fr H=>@qKp T x l x.A8.t g V E (.a [I 0,I 0]) hg hn k r fr H
 have hmm:∀(l:CF Ag),(l.map λa=>(g a).1).map Ah.dv=l.map λa=>(g a).1.dv:=λl=>by rw[List.map_map];rfl
 have e967:=λb (h:qbc (λa=>(g a).2) l=0)=>qSB T hT hA x.Op (l.map λa=>(g a).1) b (by rw[zzo];exact hn) (λv hv=>by
  obtain⟨a,ha,rfl⟩:=zzN.1 hv;exact hi a ha ((qjl _ _).1 h a ha))
 simp only[hmm]at e967;have g1:=qad n1
 have g2:=qad n2
 have g3:=qad n3
 have g4:=qad n4
 have g5:=qad n5
 generalize qeJ x.Op (l.map λa=>(g a).1)=p at *
 obtain⟨v,f⟩:=p;unfold qa9 at e967⊢;simp only at e967;obtain⟨o,m,s,a⟩:=x;obtain⟨a,t⟩:=a;simp only at h2 lp e967 g1 g2 g3 g4 g5 n1 n2 n3 n4 n5⊢;subst h2;rw[qab T (hT 947 F947 rfl) rfl];simp[F947,Fr.Aa,g1,g2,g3,g4,g5,n1,n2,n3,n4,n5];refine lp _ _ _ _ (λh=>?_) (λh fr J h6 h7 hg'=>?_) (λh fr z J h6 h7 hg'=>?_) (by simp)
 ·rw[if_pos h];cases ho:l.map (λa=>(g a).1.dv)with
  |nil=>
   have ef:=e967 true h
   rw[ho]at ef;simp[qai,qbx,pB,ef]
  |cons y o'=>
   have ef:=e967 false h
   rw[ho]at ef;have ht:o'.take o'.length=o':=zzv (by simp)
   simp[qai,qbx,pB,ht,qaK,pur,qaW,qQs,ef]
 ·rw[if_neg h];simp[h6,h7,hg',Ah.dv]
 ·rw[if_neg h];simp[h6,h7,hg',Ah.dv]
def qSv(T:Tab)(hT:HT T)(x c a b:Ag)(h2:x.A8.l=[c.dv,a.dv,b.dv])(V E:DV)(p q s:Ah×Int)(hc:T.val 947 [c.dv,V,E]=some (qa9 p))(ha:p.2=0->p.1.N=1->T.val 947 [a.dv,V,E]=some (qa9 q))(hb:p.2=0->p.1.N=0->T.val 947 [b.dv,V,E]=some (qa9 s))(h01:p.2=0->p.1.N=0\/p.1.N=1)(h:x.Op=19) :
  T.val 947 [x.dv,V,E]=some (qa9 (if p.2=0 then (if p.1.N=1 then q else s)else (⟨0,0⟩,p.2))):=by
 obtain⟨o,m,w,l⟩:=x;obtain⟨l,t⟩:=l;simp only at h2 h;subst h2;subst h;obtain⟨v,f⟩:=p;unfold qa9 at *
 simp only at hc ha hb h01⊢;have w1:IntKind.i64.wrap 1=1:=by decide
 have w2:IntKind.i64.wrap 2=2:=by decide
 rw[qab T (hT 947 F947 rfl) rfl];by_cases hf:f=0
 ·subst hf;rw[if_pos rfl];rcases h01 rfl with hn|hn
  ·have e:=hb rfl hn
   rw[if_neg (by omega)]
   simp[F947,Fr.Aa,hc,hn,e,w1,w2]
  ·have e:=ha rfl hn
   rw[if_pos hn];simp[F947,Fr.Aa,hc,hn,e,w1,w2]
 ·have gf:=qad hf
  rw[if_neg hf];simp[F947,Fr.Aa,hc,hf,gf,bne,↓qay,↓qaC,↓qaB,putAt,mkA,qaf,qau,qaQ,qaw,Ah.dv]
def TV(T:Tab)(V E:DV)(x:Ag)(p:Int×Int):Prop:=
 T.val 400 [x.dv,V]=some (two p)/\(p.2=0->∃q:Ah×Int,T.val 947 [x.dv,V,E]=some (qa9 q)/\(q.2=0->q.1.Typ=p.1/\q.1.i/\(p.1=5->q.1.N=0\/q.1.N=1)))
def qPW{ts:Cw}(h:(qbH 19 ts).2=true):∃b,ts=[5,b,b]/\(qbH 19 ts).1=b:=by
 unfold qbH at h⊢;by_cases ha:ts.all qcP=true
 ·rw[if_pos ha]at h⊢;match ts,h with
  |[],h=>cases h
  |[a],h=>simp[qcR]at h
  |[a,b],h=>
   have:(qcE 19 a b).2=true:=by
    by_cases c:(qcE 19 a b).2=true
    ·exact c
    ·simp only at h;rw[if_neg c]at h;cases h
   exact absurd rfl (qCZ this).2.2
  |[a,b,c],h=>
   have h':a=5/\b=c:=by
    by_cases c':a=5/\b=c
    ·exact c'
    ·exfalso;simp[c']at h
   obtain⟨rfl,rfl⟩:=h';exact⟨b,rfl,by simp⟩
  |_::_::_::_::_,h=>cases h
 ·rw[if_neg ha]at h;cases h
def qQW{α:Type}{f:α->Int}{l:CF α}{x y z:Int}(h:l.map f=[x,y,z]):∃a b c,l=[a,b,c]/\f a=x/\f b=y/\f c=z:=by
 cases l with
 |nil=>simp at h
 |cons a l=>
  cases l with
  |nil=>simp at h
  |cons b l=>
   cases l with
   |nil=>simp at h
   |cons c l=>
    cases l with
    |nil=>
     simp at h;exact⟨a,b,c,rfl,h.1,h.2.1,h.2.2⟩
    |cons d l=>simp at h
def qQ1(T:Tab)(hT:HT T)(hA:HA T)(vs:CF Au)(es:CF Ah)(tv te:CG)(hv:vs.length<=1000)(hE:qlt vs es):∀(n:Nat) (x:Ag),SizeOf.sizeOf x.dv<n->x.ok->∃p,TV T (.l (K1 2) (vs.map Au.dv) tv) (.l (K1 2) (es.map Ah.dv) te) x p:=by
 intro n;induction n with
 |zero=>intro x h;exact absurd h (zzm _)
 |succ n ih=>
  intro x hn hx;by_cases n4:x.Op=4
  ·have e:=qvK T hT x vs tv hv (.inr (.inr (.inr n4)))
   rw[if_pos n4]at e;refine⟨_,e,λh0=>⟨_,qSy T hT x vs es tv te hv hE.1 n4 h0,λ_=>qDA x.S vs es hE h0⟩⟩
  by_cases n123:x.Op=1\/x.Op=2\/x.Op=3
  ·have e:=qvK T hT x vs tv hv (by rcases n123 with h|h|h<;>first|exact .inl h|exact .inr (.inl h)|exact .inr (.inr (.inl h)))
   rw[if_neg n4]at e;refine⟨_,e,λh0=>⟨_,qSw T hT x _ _ n123,λ_=>⟨rfl,?_,λh5=>?_⟩⟩⟩
   ·have:=qHk hx.2.1
    exact⟨this.1,by show x.N<_;omega⟩
   ·simp only at h5;omega
  have n1:x.Op≠1:=λh=>n123 (.inl h)
  have n2:x.Op≠2:=λh=>n123 (.inr (.inl h))
  have n3:x.Op≠3:=λh=>n123 (.inr (.inr h))
  obtain⟨l,h2,h3,h4⟩:=qnB hx;obtain⟨g,hg⟩:=qi8 (P:=λa p=>TV T (.l (K1 2) (vs.map Au.dv) tv) (.l (K1 2) (es.map Ah.dv) te) a p) (λa ha=>ih a (by have:=qnA h2 ha;omega) (h3 a ha))
  have e400:=qDe T hT hA x l h2 h4 (.l (K1 2) (vs.map Au.dv) tv) g (λa ha=>(hg a ha).1) n1 n2 n3 n4
  refine⟨_,e400,λh0=>?_⟩
  unfold qtX at h0⊢;by_cases hf:qbc (λa=>(g a).2) l=0
  ·rw[if_pos hf]at h0⊢;by_cases hr:(qbH x.Op (l.map λa=>(g a).1)).2=true
   ·rw[if_pos hr];have hall:=(qjl _ _).1 hf
    haveI:Nonempty (Ah×Int):=⟨(⟨0,0⟩,0)⟩
    obtain⟨G,hG⟩:=qi8 (P:=λ(a:Ag) (q:Ah×Int)=>T.val 947 [a.dv,.l (K1 2) (vs.map Au.dv) tv,.l (K1 2) (es.map Ah.dv) te]=some (qa9 q)/\(q.2=0->q.1.Typ=(g a).1/\q.1.i/\((g a).1=5->q.1.N=0\/q.1.N=1))) (λa ha=>(hg a ha).2 (hall a ha))
    by_cases n5:x.Op=19
    ·rw[n5]at hr⊢;obtain⟨b,hb,hb1⟩:=qPW hr;rw[hb1];obtain⟨c,a,d,hl3,hc5,ha5,hd5⟩:=qQW hb;rw[hl3]at h2 hG;have Gc:=hG c (by simp)
     have Ga:=hG a (by simp)
     have Gd:=hG d (by simp)
     have e:=qSv T hT x c a d h2 _ _ (G c) (G a) (G d) Gc.1 (λ_ _=>Ga.1) (λ_ _=>Gd.1) (λh=>(Gc.2 h).2.2 hc5) n5
     refine⟨_,e,?_⟩;by_cases f0:(G c).2=0
     ·rw[if_pos f0];by_cases c1:(G c).1.N=1
      ·rw[if_pos c1];intro h
       have:=Ga.2 h
       rw[ha5]at this;exact this
      ·rw[if_neg c1];intro h
       have:=Gd.2 h
       rw[hd5]at this;exact this
     ·rw[if_neg f0];intro h;exact absurd h f0
    ·have e:=qSx T hT hA x l h2 h4 _ _ G (λa ha=>(hG a ha).1) (λa ha h=>((hG a ha).2 h).2.1) n1 n2 n3 n4 n5
     refine⟨_,e,?_⟩;by_cases f0:qbc (λa=>(G a).2) l=0
     ·rw[if_pos f0];intro h;have hall2:=(qjl _ _).1 f0
      have ht:(l.map λa=>(G a).1).map (·.Typ)=l.map λa=>(g a).1:=by
       rw[List.map_map];apply List.map_congr_left
       intro a ha;exact ((hG a ha).2 (hall2 a ha)).1
      have:=qEU x.Op (l.map λa=>(G a).1) (λv hv=>by
       obtain⟨a,ha,rfl⟩:=zzN.1 hv;exact ((hG a ha).2 (hall2 a ha)).2.1) (by rw[ht];exact hr) h
      rw[ht]at this;exact this
     ·rw[if_neg f0];intro h;exact absurd h f0
   ·rw[if_neg hr]at h0;cases h0
  ·rw[if_neg hf]at h0;exact absurd h0 hf
def evB:CF Au->CF Ah->CG
 |[],[]=>true
 |v::vs,e::es=>(decide (e.Typ=v.Typ)&&okV e)&&evB vs es
 |_,_=>false
def qxT:∀(vs:CF Au) (es:CF Ah),(∀e∈es,e.i)->evB vs es=true->qlt vs es
 |[],[],_,_=>⟨rfl,λi h=>absurd h (zzm _)⟩
 |[],_::_,_,h=>by cases h
 |_::_,[],_,h=>by cases h
 |v::vs,e::es,hi,h=>by
  simp only[evB,zzf,zzq]at h;have ih:=qxT vs es (λw hw=>hi w (by simp[hw])) h.2
  refine⟨by simp[ih.1],λi h1 h2=>?_⟩
  cases i with
  |zero=>exact⟨h.1.1,hi e (by simp),h.1.2⟩
  |succ i=>exact ih.2 i (by simpa using h1) (by simpa using h2)
def qxU:∀(vs:CF Au) (es:CF Ah),vs.length≠es.length->evB vs es=false
 |[],[],h=>absurd rfl h
 |[],_::_,_=>rfl
 |_::_,[],_=>rfl
 |v::vs,e::es,h=>by
  rw[evB,qxU vs es (by simpa using h),Bool.and_false]
def qKn(T:Tab)(hT:HT T)(vs:CF Au)(es:CF Ah)(tv te:CG)(hn:vs.length<=1000)(hl:vs.length=es.length){k:KC (PV×CG)}{r:Cz}{fr:Fr}{H:CP}
  (he:evB vs es=true->k (.exit 0) [(15,.d (.b false)),(14,.d (I es.length)),(13,.d (I es.length)),(12,.d (.l (K1 2) (es.map Ah.dv) te)),(0,.d (.l (K1 2) (vs.map Au.dv) tv))] []=r)
  (hr:evB vs es=false->∀fr J,fr.get 4=.d (.b false)->qan fr=[]->k .ret fr J=r)
  (h0:gc [0,12,13,14] 0 ⟨fr,H⟩=⟨[(14,.d (I 0)),(13,.d (I es.length)),(12,.d (.l (K1 2) (es.map Ah.dv) te)),(0,.d (.l (K1 2) (vs.map Au.dv) tv))],[]⟩) :
  kC T.env 0 fr H (.h (.loop [0,12,13,14] qmP,k))=r:=by
 refine qc7 (λi:Nat=>⟨[(14,.d (I i)),(13,.d (I es.length)),(12,.d (.l (K1 2) (es.map Ah.dv) te)),(0,.d (.l (K1 2) (vs.map Au.dv) tv))],[]⟩) (λi=>i<=es.length/\evB vs es=evB (vs.drop i) (es.drop i)) (λi=>es.length-i) ?_ 0 ⟨zzK _,by simp⟩ h0
 rintro B-i ⟨hi,ha⟩ hx;by_cases hlt:i<es.length
 ·have h1:(i:Int)<es.length:=by omega
  have h1':(i:Int)<vs.length:=by omega
  have hlt':i<vs.length:=by omega
  have h3:=wr1 (i:=i) (by omega)
  have e:=qvR T hT es[i]
  rw[zzz hlt,zzz hlt',evB]at ha;by_cases c:es[i].Typ=vs[i].Typ
  ·cases hk:okV es[i]with
   |true=>
    rw[hk,decide_eq_true c,Bool.true_and,Bool.true_and]at ha;rw[hk]at e;have hx':=hx (i+1) ⟨by omega,ha⟩ (by omega)
    simp[qmP,h1,h1',hlt,hlt',c,e,bne,zzj,h3];exact hx' _ _ (by simp)
   |false=>
    rw[hk,Bool.and_false,Bool.false_and]at ha;rw[hk]at e;have hr':=hr ha
    simp[qmP,h1,h1',hlt,hlt',c,e,bne,zzj,h3];exact hr' _ _ (by simp[Fr.get]) (by simp[qan,gh])
  ·rw[decide_eq_false c,Bool.false_and,Bool.false_and]at ha;have g:=qad c
   have hr':=hr ha
   simp[qmP,h1,h1',hlt,hlt',c,g,e,bne,zzj,h3];exact hr' _ _ (by simp[Fr.get]) (by simp[qan,gh])
 ·have:i=es.length:=by omega
  subst this;rw[zzF (zzt _),zzF (by omega)]at ha
  have he':=he ha
  have h1:¬((es.length:Int)<es.length):=by omega
  simp[qmP];exact he'
def qSu(T:Tab)(hT:HT T)(vs:CF Au)(es:CF Ah)(tv te:CG)(hn:vs.length<=1000):T.val 946 [.l (K1 2) (vs.map Au.dv) tv,.l (K1 2) (es.map Ah.dv) te]=some (.d (.b (evB vs es)),false):=by
 rw[qab T (hT 946 F946 rfl) rfl];by_cases hl:vs.length=es.length
 ·have lp:=λk r fr H=>@qKn T hT vs es tv te hn hl k r fr H
  have hli:((vs.length:Int)==(es.length:Int))=true:=by simp[hl]
  simp[F946,Fr.Aa,hl,bne];refine lp _ _ _ _ (λh=>?_) (λh fr J h4 hg=>?_) (by simp)
  ·rw[h];simp
  ·rw[h];simp[h4,hg]
 ·have hli:((vs.length:Int)==(es.length:Int))=false:=qad (by omega)
  have hli2:¬((vs.length:Int)=(es.length:Int)):=by omega
  rw[qxU vs es hl];simp[F946,Fr.Aa,hl,hli,hli2,bne]
def qLe(T:Tab)(hT:HT T)(hA:HA T)(vs:CF Au)(tv:CG)(hv:vs.length<=1000):∀(n:Nat) (x:Ag),SizeOf.sizeOf x.dv<n->x.ok->∃p,T.val 400 [x.dv,.l (K1 2) (vs.map Au.dv) tv]=some (two p):=by
 intro n;induction n with
 |zero=>intro x h;exact absurd h (zzm _)
 |succ n ih=>
  intro x hn hx;by_cases h:x.Op=1\/x.Op=2\/x.Op=3\/x.Op=4
  ·exact⟨_,qvK T hT x vs tv hv h⟩
  ·obtain⟨l,h2,h3,h4⟩:=qnB hx;obtain⟨g,hg⟩:=qi8 (P:=λa p=>T.val 400 [a.dv,.l (K1 2) (vs.map Au.dv) tv]=some (two p)) (λa ha=>ih a (by have:=qnA h2 ha;omega) (h3 a ha))
   exact⟨_,qDe T hT hA x l h2 h4 _ g hg (by omega) (by omega) (by omega) (by omega)⟩
def qDd(T:Tab)(hT:HT T)(hN:HNm T)(x:Ag)(hx:x.ok)(V:DV)(p:Int×Int)(hp:T.val 400 [x.dv,V]=some (two p)):∃q,T.val 387 [x.dv,V]=some (two q)/\(q.2=0->q=p):=by
 obtain⟨n,e⟩:=qRs T hT hN x hx;by_cases h:n=0
 ·subst h;refine⟨p,?_,λ_=>rfl⟩
  unfold two at *
  rw[qab T (hT 387 qiH rfl) rfl];simp[qiH,Fr.Aa,e,hp]
 ·have g:=qad h
  refine⟨(0,n),?_,λh0=>absurd h0 h⟩
  unfold two at *
  rw[qab T (hT 387 qiH rfl) rfl];simp[qiH,Fr.Aa,e,h,g,bne]
def qSp(T:Tab)(hT:HT T)(hA:HA T)(hN:HNm T)(vs:CF Au)(es:CF Ah)(tv te:CG)(hv:vs.length<=1000)(hi:∀e∈es,e.i)(h945:T.val 945 [.l (K1 2) (vs.map Au.dv) tv]=some (.d (I 0),false))(x:Ag)(hx:x.ok) :
  ∃q:Ah×Int,T.val 916 [x.dv,.l (K1 2) (vs.map Au.dv) tv,.l (K1 2) (es.map Ah.dv) te]=some (qa9 q):=by
 have e946:=qSu T hT vs es tv te hv
 cases hb:evB vs es with
 |true=>
  rw[hb]at e946;obtain⟨p,h400,h947⟩:=qQ1 T hT hA vs es tv te hv (qxT vs es hi hb) _ x (Nat.lt_succ_self _) hx;obtain⟨q,h387,hq⟩:=qDd T hT hN x hx _ p h400;by_cases h0:q.2=0
  ·obtain⟨v,e947,-⟩:=h947 (by rw[<-hq h0];exact h0)
   refine⟨v,?_⟩;obtain⟨q1,q2⟩:=q;simp only at h0;subst h0;unfold two at h387;unfold qa9 at e947⊢;rw[qab T (hT 916 qdS rfl) rfl];simp[qdS,Fr.Aa,h945,h387,e946,e947]
  ·refine⟨(⟨0,0⟩,q.2),?_⟩;have g:=qad h0
   unfold two at h387;unfold qa9;rw[qab T (hT 916 qdS rfl) rfl];simp[qdS,Fr.Aa,h945,h387,h0,g,bne,↓qay,↓qaC,↓qaB,putAt,mkA,qaf,qau,qaQ,qaw,Ah.dv]
 |false=>
  rw[hb]at e946;obtain⟨p,h400⟩:=qLe T hT hA vs tv hv _ x (Nat.lt_succ_self _) hx;obtain⟨q,h387,-⟩:=qDd T hT hN x hx _ p h400;by_cases h0:q.2=0
  ·refine⟨(⟨0,0⟩,1),?_⟩;obtain⟨q1,q2⟩:=q;simp only at h0;subst h0;unfold two at h387;unfold qa9;rw[qab T (hT 916 qdS rfl) rfl];simp[qdS,Fr.Aa,h945,h387,e946,↓qay,↓qaC,↓qaB,putAt,mkA,qaf,qau,qaQ,qaw,Ah.dv]
  ·refine⟨(⟨0,0⟩,q.2),?_⟩;have g:=qad h0
   unfold two at h387;unfold qa9;rw[qab T (hT 916 qdS rfl) rfl];simp[qdS,Fr.Aa,h945,h387,h0,g,bne,↓qay,↓qaC,↓qaB,putAt,mkA,qaf,qau,qaQ,qaw,Ah.dv]
end
section
variable {R:Type}{H:CP}{id:Nat}{k:K}{b:Nat}{q:PV->CP->CE R}
def qky{o off len:Nat}{k':K}:bo2 (qcI H id k b (.r o k' off len false) []) (.h q)=match H.obj o with
  |some (.sl k'' ro es)=>chk ((K.eq k k'&&K.eq k k''&&decide (off+len<=es.length)&&decide (len*b<=2^47))=true) (.h (chk (ro<=off+len) (.h (q (.r id k 0 len false) ((H.put o none).put id (some (.sl k (ro-off) ((es.drop off).take len))))))))
  |_=>none:=by
 simp only[qcI,qbU,qa4,qck,Bool.true_or,if_true,chk,List.length_nil,Nat.add_zero,List.isEmpty_nil,Bool.or_true];cases H.obj o with
 |none=>rfl
 |some x=>
  cases x with
  |sl k'' ro es=>
   simp only[List.append_nil,zzg,if_false];split
   ·split<;>rfl
   ·rfl
  |_=>rfl
def qiW{o off len:Nat}{k':K}{t:CG}{ys:Ct}(hy:ys≠[]):bo2 (qcI H id k b (.r o k' off len t) ys) (.h q)=match H.obj o with
  |some (.sl k'' ro es)=>chk ((K.eq k k'&&K.eq k k''&&decide (off+len<=es.length)&&decide ((len+ys.length)*b<=2^47))=true) (.h (brn t (.h (q (.r id k 0 (len+ys.length) false) (H.put id (some (.sl k 0 ((es.drop off).take len++ys)))),chk (ro<=off+len) (.h (q (.r id k 0 (len+ys.length) false) ((H.put o none).put id (some (.sl k (ro-off) ((es.drop off).take len++ys))))))))))
  |_=>none:=by
 cases ys with
 |nil=>exact absurd rfl hy
 |cons y ys=>exact qhX
end
def qqm{k:K}:∀{l:Ct},l≠[]->qai k l=.r 0 k 0 l.length false/\qar k l=[some (.sl k 0 l)]
 |[],h=>absurd rfl h
 |_::_,_=>⟨rfl,rfl⟩
def qQu(H:CP):slA H K0 (.d (.l K0 [] true)) none (some (.d (I 0))) none=some (.d (.l K0 [] true)):=rfl
def qQv(H:CP):slA H K0 (.d (.l K0 [] true)) (some (.d (I 0))) none none=some (.d (.l K0 [] true)):=rfl
def qCw(L:Ct)(j:Nat)(hj:j<=L.length)(H:CP):slA (some (.sl K0 0 L)::H) K0 (.r 0 K0 0 L.length false) none (some (.d (I j))) none=some (.r 0 K0 0 j false):=by
 have h1:(0:Int)<=(j:Int)/\(j:Int)<=(L.length:Int):=⟨by omega,by omega⟩
 simp[slA,Heap.obj,bnd,asI,K.eq,h1]
def qCx(L:Ct)(j:Nat)(hj:j<=L.length)(H:CP):slA (some (.sl K0 0 L)::H) K0 (.r 0 K0 0 L.length false) (some (.d (I j))) none none=some (.r 0 K0 j (L.length-j) false):=by
 have h1:(0:Int)<=(j:Int)/\(j:Int)<=(L.length:Int):=⟨by omega,by omega⟩
 simp[slA,Heap.obj,bnd,asI,K.eq,h1]
def sdK(v:DV):qch K0 v 0 K0=some v:=rfl
def smA(acc:Int):CF Ac->Int
 |[]=>0
 |x::l=>(if x.Ai=acc then x.Amount else 0)+smA acc l
def BdA(n:Int):Prop:=-1000000000000<=n/\n<=1000000000000
def qdP{n:Int}(h : -9223372036854775808<=n)(h':n<9223372036854775808):w64 n=n:=wrI h h'
def qAJ(acc:Int):∀(l:CF Ac) (i:Nat) (b:Int),(∀x∈l,BdA x.Amount)->-4000000000000000000<=b-l.length*1000000000000->b+l.length*1000000000000<=4000000000000000000->qaj (qcv acc) i b l=b-smA acc l
 |[],i,b,_,_,_=>by simp[qaj,smA]
 |x::l,i,b,h,h1,h2=>by
  have hx:=h x (zzr ..)
  have ih:=λb'=>qAJ acc l (i+1) b' (λy hy=>h y (zzi _ hy))
  unfold BdA at hx;rw[zzn]at h1 h2;simp only[qaj,qcv,smA];by_cases e:x.Ai=acc
  ·rw[if_pos (by simp[e]),if_pos e,qdP (by omega) (by omega),ih _ (by omega) (by omega)];omega
  ·rw[if_neg (by simpa using e),if_neg e,ih _ (by omega) (by omega)];omega
def qvo(acc:Int):∀(l:CF Ac),(∀x∈l,BdA x.Amount)->-(l.length*1000000000000)<=smA acc l/\smA acc l<=l.length*1000000000000
 |[],_=>by simp[smA]
 |x::l,h=>by
  have hx:=h x (zzr ..)
  have ih:=qvo acc l (λy hy=>h y (zzi _ hy))
  unfold BdA at hx;rw[zzn];unfold smA;split<;>omega
def qAL(acc:Int)(e:Af)(h:∀x∈e.Ad.l,BdA x.Amount)(hl:e.Ad.l.length<=12):qjC acc e=- smA acc e.Ad.l:=by
 unfold qjC;rw[qAJ acc _ 0 0 h (by omega) (by omega)];omega
def qA8(acc:Int):∀(j:CF Af) (i:Nat) (b:Int),(∀e∈j,e.Ad.l.length<=12/\∀x∈e.Ad.l,BdA x.Amount)->-4000000000000000000<=b-j.length*12000000000000->b+j.length*12000000000000<=4000000000000000000->b-j.length*12000000000000<=qaj (qjh acc) i b j/\qaj (qjh acc) i b j<=b+j.length*12000000000000
 |[],i,b,_,_,_=>by simp[qaj]
 |e::j,i,b,h,h1,h2=>by
  have he:=h e (zzr ..)
  have ih:=λb'=>qA8 acc j (i+1) b' (λy hy=>h y (zzi _ hy))
  rw[zzn]at h1 h2⊢;have m1:=qAL acc e he.2 he.1
  have m2:=qvo acc e.Ad.l he.2
  simp only[qaj,qjh];have he1:=he.1
  have w:=qdP (n:=b+qjC acc e) (by omega) (by omega)
  rw[w]
  have:=ih (b+qjC acc e) (by omega) (by omega)
  omega
def qyQ(acc day:Int):∀(l:CF Av) (i:Nat) (b:Int),(∀x∈l,0<=x.Amount/\x.Amount<=1000000000000)->0<=b->b+l.length*1000000000000<=4000000000000000000->0<=qaj (qeq acc day) i b l/\qaj (qeq acc day) i b l<=b+l.length*1000000000000
 |[],i,b,_,_,_=>by simp[qaj];assumption
 |e::j,i,b,h,h1,h2=>by
  have he:=h e (zzr ..)
  have ih:=λb'=>qyQ acc day j (i+1) b' (λy hy=>h y (zzi _ hy))
  rw[zzn]at h2⊢;simp only[qaj,qeq];split
  ·have w:=qdP (n:=b+e.Amount) (by omega) (by omega)
   rw[w]
   have:=ih (b+e.Amount) (by omega) (by omega)
   omega
  ·have:=ih b (by omega) (by omega)
   omega
def qBY:∀(l:CF Aq) (i:Nat) (b:Int),(∀x∈l,0<=x.Amount/\x.Amount<=1000000000000)->0<=b->b+l.length*1000000000000<=4000000000000000000->0<=qaj qer i b l/\qaj qer i b l<=b+l.length*1000000000000
 |[],i,b,_,_,_=>by simp[qaj];assumption
 |e::j,i,b,h,h1,h2=>by
  have he:=h e (zzr ..)
  have ih:=λb'=>qBY j (i+1) b' (λy hy=>h y (zzi _ hy))
  rw[zzn]at h2⊢;simp only[qaj,qer];split
  ·have w:=qdP (n:=b+e.Amount) (by omega) (by omega)
   rw[w]
   have:=ih (b+e.Amount) (by omega) (by omega)
   omega
  ·have:=ih b (by omega) (by omega)
   omega
def qSM(n:Int):∃k:Int,w64 n=n+k*18446744073709551616:=
 ⟨-((n+9223372036854775808)/18446744073709551616),by unfold w64;rw[IntKind.wrap_i64];omega⟩
def qCA(acc:Int)(x:Ac):∀g:CF Ac,∃k:Int,smA acc (qaV g x)=smA acc g+(if x.Ai=acc then x.Amount else 0)+k*18446744073709551616
 |[]=>⟨0,by simp[qaV,smA]⟩
 |y::r=>by
  unfold qaV;split
  ·obtain⟨k,hk⟩:=qCA acc x r;exact⟨k,by simp only[smA];omega⟩
  ·rename_i h1;split
   ·exact⟨0,by simp only[smA];omega⟩
   ·rename_i h2;have e:=(qtF (by simpa using h1) (by simpa using h2)).1
    obtain⟨k,hk⟩:=qSM (y.Amount+x.Amount);rw[smA,qdf,smA];simp only[e,hk];by_cases c:x.Ai=acc
    ·exact⟨k,by simp only[if_pos c];omega⟩
    ·exact⟨0,by simp only[if_neg c];omega⟩
def qCz(acc:Int):∀(l g:CF Ac),∃k:Int,smA acc (l.foldl qaV g)=smA acc g+smA acc l+k*18446744073709551616
 |[],g=>⟨0,by simp[smA]⟩
 |x::l,g=>by
  obtain⟨k,hk⟩:=qCA acc x g;obtain⟨k',hk'⟩:=qCz acc l (qaV g x);refine⟨k+k',?_⟩;rw[List.foldl_cons,hk',hk];simp only[smA];omega
def qvp(acc:Int):∀l:CF Ac,smA acc (l.filter λx=>x.Amount != 0)=smA acc l
 |[]=>rfl
 |x::l=>by
  rw[List.filter_cons];split
  ·simp only[smA,qvp acc l]
  ·rename_i h;have h0:x.Amount=0:=by simpa using h
   simp only[smA,qvp acc l,h0];split<;>omega
def qQC(acc:Int)(l:CF Ac):∃k:Int,smA acc (qba l)=smA acc l+k*18446744073709551616:=by
 obtain⟨k,hk⟩:=qCz acc l [];refine⟨k,?_⟩;unfold qba;rw[qvp,hk];simp[smA]
def qvq(acc:Int):∀l:CF Ac,(∀x∈l,x.Ai≠acc)->smA acc l=0
 |[],_=>rfl
 |x::l,h=>by
  rw[smA,if_neg (h x (zzr ..)),qvq acc l λy hy=>h y (zzi _ hy)];rfl
def qCy(acc:Int):∀l m:CF Ac,smA acc (l++m)=smA acc l+smA acc m
 |[],m=>by simp[smA]
 |x::l,m=>by rw[List.cons_append,smA,qCy acc l m,smA];omega
def qQD(l:CF Ac)(i:Nat)(hi:i<l.length)(h:∀(k:Nat) (hk:k<l.length),k≠i->l[k].Ai≠l[i].Ai):smA l[i].Ai l=l[i].Amount:=by
 have e:l=l.take i++l[i]::l.drop (i+1):=by
  rw[<-zzz hi,List.take_append_drop]
 have h1:smA l[i].Ai (l.take i)=0:=qvq _ _ λx hx=>by
  obtain⟨k,hk,rfl⟩:=zzO hx;rw[List.getElem_take];rw[zzI]at hk;exact h k (by omega) (by omega)
 have h2:smA l[i].Ai (l.drop (i+1))=0:=qvq _ _ λx hx=>by
  obtain⟨k,hk,rfl⟩:=zzO hx;rw[List.getElem_drop];rw[zzJ]at hk;exact h _ (by omega) (by omega)
 generalize l[i]=y at *
 rw[e,qCy,smA,h1,h2,if_pos rfl];omega
def qAd:∀l:CF Ac,qb8 l=0->∀x∈l,BdA x.Amount
 |[],_,_,h=>by cases h
 |x::l,h,y,hy=>by
  unfold qb8 at h;by_cases e:qcf x=0
  ·rw[if_pos e]at h;rcases List.mem_cons.1 hy with rfl|hy
   ·unfold qcf at e;by_cases b:qmY y=true
    ·rw[if_pos b]at e;exact absurd e (by decide)
    ·unfold qmY at b;simp only[Bool.or_eq_true,zzq,not_or]at b;exact⟨by omega,by omega⟩
   ·exact qAd l h y hy
  ·rw[if_neg e]at h;exact absurd h e
def qge{e:Af}(h:qcc e=0):e.Ad.l.length<=12/\∀x∈e.Ad.l,BdA x.Amount:=by
 unfold qcc at h;by_cases h1:qig e.Key=true
 ·rw[if_pos h1]at h;split at h
  ·by_cases h3:e.Ad.l.length<2\/12<e.Ad.l.length
   ·rw[if_pos h3]at h;exact absurd h (by decide)
   ·rw[if_neg h3]at h;by_cases h4:qb8 e.Ad.l=0
    ·exact⟨by omega,qAd _ h4⟩
    ·rw[if_neg h4]at h;exact absurd h h4
  ·exact absurd h (by decide)
 ·rw[if_neg h1]at h;exact absurd h (by decide)
def qye{α β:Type}(f:Nat->β->α->β):∀(l:CF α) (i:Nat) (b:β) (x:α),qaj f i b (l++[x])=f (i+l.length) (qaj f i b l) x
 |[],i,b,x=>rfl
 |y::l,i,b,x=>by
  show qaj f (i+1) (f i b y) (l++[x])=_
  rw[qye f l (i+1)];rw[show i+1+l.length=i+(y::l).length by rw[zzn];omega]
  rfl
def qGY{J:CF Af}{e:Af}{acc day ov ex am fl:Int}{Ho:CF Av}{Bl:CF Aq}(hJ:∀e∈J,qcc e=0)(he:qcc e=0)(lJ:J.length<=150)(lH:Ho.length<=100)(lB:Bl.length<=100)
  (hH:∀h∈Ho,0<=h.Amount/\h.Amount<=1000000000000) (hB:∀h∈Bl,0<=h.Amount/\h.Amount<=1000000000000) (h1:0<=ov/\ov<=1000000000000) (h2:0<=ex/\ex<=1000000000000) (hf:fl=w64 (-(w64 (ov+ex))))
  (hk:∃k:Int,am=smA acc e.Ad.l+k*18446744073709551616) (ha : -9223372036854775808<=am/\am<9223372036854775808) (hal:am<=w64 (w64 (w64 (ofR J acc-fl)-qev Ho acc day)-qeB Bl acc day)) :
  w64 (w64 (fl+qev Ho acc day)+qeB Bl acc day)<=ofR (J++[e]) acc:=by
 have e1:ofR (J++[e]) acc=w64 (ofR J acc+qjC acc e):=by unfold ofR;rw[qye];rfl
 have b1:=qA8 acc J 0 0 (λx hx=>qge (hJ x hx)) (by omega) (by omega)
 have b2:=qyQ acc day Ho 0 0 hH (by omega) (by omega)
 have b3:0<=qeB Bl acc day/\qeB Bl acc day<=100000000000000:=by
  have hl:=List.length_filter_le (qbs acc day) Bl
  have:=qBY (Bl.filter (qbs acc day)) 0 0 (λx hx=>hB x ((List.mem_filter.1 hx).1)) (by omega) (by omega)
  unfold qeB;omega
 have m1:=qAL acc e (qge he).2 (qge he).1
 have m2:=qvo acc e.Ad.l (qge he).2
 have m3:=(qge he).1
 have b1' : -1800000000000000<=ofR J acc/\ofR J acc<=1800000000000000:=by unfold ofR;omega
 have b2':0<=qev Ho acc day/\qev Ho acc day<=100000000000000:=by unfold qev;omega
 obtain⟨k,hk⟩:=hk;have hfl:fl=-(ov+ex):=by
  rw[hf,qdP (n:=ov+ex) (by omega) (by omega),qdP (by omega) (by omega)]
 rw[e1,m1];generalize ofR J acc=A at *
 generalize qev Ho acc day=C at *
 generalize qeB Bl acc day=D at *
 generalize smA acc e.Ad.l=S at *
 clear hJ he lH lB hH hB hf b1 b2 e1 m1
 have hS : -12000000000000<=S/\S<=12000000000000:=by omega
 rw[qdP (n:=A-fl) (by omega) (by omega),qdP (n:=A-fl-C) (by omega) (by omega),qdP (n:=A-fl-C-D) (by omega) (by omega)]at hal
 rw[qdP (n:=fl+C) (by omega) (by omega),qdP (n:=fl+C+D) (by omega) (by omega),qdP (n:=A + -S) (by omega) (by omega)]
 have hk0:k=0:=by omega
 omega
def qyh(id frm upto:Int):∀(l:CF Af) (i:Nat) (n:Int),(-9223372036854775808<=n/\n<9223372036854775808)->-9223372036854775808<=qaj (qep id frm upto) i n l/\qaj (qep id frm upto) i n l<9223372036854775808
 |[],_,_,h=>h
 |x::l,i,n,h=>by
  rw[qaj];refine qyh id frm upto l (i+1) _ ?_;unfold qep;split
  ·exact qoh _
  ·exact h
def qGl(b:Ap)(id day amount:Int):∀p∈(qcK b id day amount).1,-9223372036854775808<=p.2/\p.2<9223372036854775808:=by
 intro p hp;unfold qcK at hp;split at hp
 ·cases hp
 ·split at hp
  ·split at hp
   ·rename_i a _ hv ha;simp only[zzB,zzN,List.mem_cons,zzC,or_false]at hp;rcases hp with ⟨n,hn,rfl⟩|rfl|rfl|rfl
    ·have:=List.all_eq_true.1 ha n hn
     simp only[wth,MA,zzf,zzq]at this;simp only;omega
    ·exact qyh id _ _ _ 0 0 (by decide)
    ·exact qoh _
    ·have:0<=day/\day<=73048:=by
      simp only[zzf]at hv
      have:=hv.1
      unfold qa3 at this;simp only[zzf,zzq]at this;omega
     simp only;omega
   ·cases hp
  ·cases hp
def qGk{b:Ap}{id day amount:Int}(h:(qcK b id day amount).2=0):qa3 day=true:=by
 unfold qcK at h;split at h
 ·cases h
 ·split at h
  ·rename_i hv;simp only[zzf]at hv;exact hv.1
  ·cases h
def qwM{l:CF Ak}{nm:Cv}{day:Int}{p:Ak}(h:atP l nm day=some p):p∈l:=by
 unfold atP at h;split at h
 ·cases h
 ·exact List.mem_of_getElem? h
structure HEv (T:Tab):Prop where
 hT:HT T
 hU:HU T
 hV:HV T
 hC:HC T
 hW:HWd T
 hA:HA T
 vars:∃(vs:List Au) (t o:Bool),T.val 371 []=some (.d (.l (K1 2) (vs.map Au.dv) t),o)/\vs.length<=1000/\T.val 945 [.l (K1 2) (vs.map Au.dv) t]=some (.d (I 0),false)
def qQ2(T:Tab)(h:HEv T)(x:Ag)(hx:x.ok)(b:Ap)(id day amount:Int)(te:CG):∃(V:DV) (o:CG) (q:Ah×Int),T.val 371 []=some (.d V,o)/\T.val 916 [x.dv,V,.l (K1 2) ((qcK b id day amount).1.map V2) te]=some (qa9 q):=by
 obtain⟨vs,t,o,e1,hn,e2⟩:=h.vars;have hm:(qcK b id day amount).1.map V2=((qcK b id day amount).1.map λp=>(⟨p.1,p.2⟩:Ah)).map Ah.dv:=by rw[List.map_map];rfl
 obtain⟨q,hq⟩:=qSp T h.hT h.hA (hnm T h.hT h.hC h.hW) vs ((qcK b id day amount).1.map λp=>(⟨p.1,p.2⟩:Ah)) t te hn (λe he=>by
  obtain⟨p,hp,rfl⟩:=zzN.1 he;exact qGl b id day amount p hp) e2 x hx
 exact⟨_,o,q,e1,by rw[hm];exact hq⟩
def qSz(T:Tab)(hF:HF5 T)(n:Int):T.val 948 [I n]=some (.d (I n),false):=by
 rw[qab T (hF 948 qmx rfl) rfl];simp[qmx,Fr.Aa]
structure HAll (T:Tab):Prop extends HEv T where
 hQ:HQ T
 hN:HN T
 hI:HI T
 hF:HF5 T
section
attribute [local simp ↓] qcp qcq qb7 qdH qcN qew qbY qb1 qdj qdV qdW qdh qdi qb0 qdB qcd qd1 qd0 qd7 qej qdZ qeh qeg qcm qd3 qc2 qd4 qd6 qd5 qd8 qd2 qea qec qef qee qed qd9 qeb qei qdX qdY
attribute [local simp] qb9 qbr AA AP qaE qa8 chg qbj runs qa6 qbg PV.refs PV.AL IOp.okD IOp.barr qci Nat.testBit
attribute [local simp] gc Fr.keep qap qam qae PV.refs PV.AL qaG gcH qav Obj.refs PV.ren PV.Bt Obj.ren Heap.obj Fr.ren gh zzd
def qDM(k k' k2:K)(v w u:DV):Cl [some (.box k (.d v)),some (.box k' (.d w)),some (.box k2 (.d u)),none]:=λr h=>by simp[qae,qav,Obj.refs,PV.refs]at h
def qm5(n:Nat)(cs:Cu):PV.cells (.f n cs)=[.f n cs]:=rfl
def qt5(n:Nat)(cs vs:Cu):qaf (.f n cs::vs)=none:=rfl
def qvX(w:Int):PV:=if w=2 then .a [.f 948 []]else if w=3 then .a [.f 879 []]else .d (.a [.nf])
def qvW(w:Int):CG:=decide (w=2)||decide (w=3)
def qPN(T:Tab)(hF:HF5 T)(w:Int)(H0:CP)(hH:Cl H0):T.ref 917 [.d (I w)] H0=some (.t [qvX w,.d (.b (qvW w))],H0):=by
 rw[qbW T (hF 917 qhL rfl) rfl];unfold qvX qvW;by_cases h2:w=2
 ·subst h2;simp[qhL,Fr.Aa,qir,qjM,qin,qg8,zzM,↓qay,↓qaC,↓qaB,putAt,mkA,qaf,qau,qaQ,qaw,qh9,qm5,qt5,qkN,List.drop_succ_cons,List.drop_zero,qbh];first|refine (congrArg some (qdl hH ?_)).trans ?_|refine (qdl hH ?_).trans ?_
  ·simp[PV.refs,PV.AL]
  ·rfl
 ·have g2:=qad h2
  by_cases h3:w=3
  ·subst h3;simp[qhL,Fr.Aa,qir,qjM,qin,qg8,zzM,↓qay,↓qaC,↓qaB,putAt,mkA,qaf,qau,qaQ,qaw,qh9,qm5,qt5,qkN,List.drop_succ_cons,List.drop_zero,qbh];first|refine (congrArg some (qdl hH ?_)).trans ?_|refine (qdl hH ?_).trans ?_
   ·simp[PV.refs,PV.AL]
   ·rfl
  ·have g3:=qad h3
   simp[qhL,Fr.Aa,h2,g2,h3,g3,qir,qjM,qin,qg8,zzM,↓qay,↓qaC,↓qaB,putAt,mkA,qaf,qau,qaQ,qaw,qh9,qm5,qt5,qkN,List.drop_succ_cons,List.drop_zero,qbh];first|refine (congrArg some (qdl hH ?_)).trans ?_|refine (qdl hH ?_).trans ?_
   ·simp[PV.refs,PV.AL]
   ·rfl
def qKP(T:Tab)(hV:HV T)(d:Int)(h:qa3 d=true):∃n:Int,T.val 879 [I d]=some (.d (I n),false):=by
 obtain⟨n,m,hc⟩:=qm7 h;exact⟨_,qDu T hV d n m hc⟩
def qSc(T:Tab)(h:HAll T)(b:Ap)(hb:b.ok)(v:Ak)(hv:∀r∈v.Bg.l,r.ok)(hl:v.Bg.l.length<=maxLen)(id day amount:Int):∃n:Int,T.val 858 [b.dv,v.dv,I id,I day,I amount]=some (.d (I n),false):=by
 have hm:=mxl
 have e801:=qSa T h.hU h.hV b id day amount hb
 apply qy6
 rw[qab T (h.hF 858 F858 rfl) rfl];by_cases h0:v.Bg.l=[]
 ·simp[F858,Fr.Aa,h0];exact qbz (show IsI _ from⟨_,rfl⟩)
 have l0:v.Bg.l.length≠0:=λc=>h0 (List.length_eq_zero_iff.1 c)
 have l1:((v.Bg.l.length:Int)==0)=false:=qad (by omega)
 have l2:¬((v.Bg.l.length:Int)=0):=by omega
 by_cases he:(qcK b id day amount).2=0
 ·have hd:=qGk he
  rw[he]at e801;have et:=λx hx te=>qQ2 T h.toHEv x hx b id day amount te
  obtain⟨mo,e879⟩:=qKP T h.hV day hd;generalize (qcK b id day amount).1.map V2=env at *
  generalize (qcK b id day amount).1.isEmpty=tE at *
  simp[F858,Fr.Aa,h0,l0,l1,l2,e801];refine qnG (λi:Nat=>⟨[(38,.d (I i)),(37,.d (I v.Bg.l.length)),(36,.d (.l (K1 6) (v.Bg.l.map AO.dv) v.Bg.t)),(11,.d (.l (K1 2) env tE)),(5,.p 0 0 0),(4,.d (I amount)),(3,.d (I day)),(2,.d (I id))],[some (.box (K1 22) (.d b.dv))]⟩) (λi=>i<=v.Bg.l.length) (λi=>v.Bg.l.length-i) ?_ 0 (zzK _) (by simp)
  rintro B-i hi hx;by_cases hlt:i<v.Bg.l.length
  ·have h1:(i:Int)<v.Bg.l.length:=by omega
   have h3:=wr1 (i:=i) (by omega)
   have hx':=hx (i+1) (by omega) (by omega)
   have hr:=hv v.Bg.l[i] (zzs hlt)
   obtain⟨V,o,⟨q,f⟩,e371,e916⟩:=et v.Bg.l[i].Amount hr.2.2 tE;unfold qa9 at e916;simp only at e916;have e917:=qPN T h.hF v.Bg.l[i].BX _ (qDM (K1 22) (K1 6) (K1 2) b.dv v.Bg.l[i].dv q.dv)
   unfold qvX qvW at e917;have e918:=λw=>qSq T h.hU b hb id w day
   have e948:=qSz T h.hF day
   by_cases hf:f=0
   ·subst hf;by_cases w2:v.Bg.l[i].BX=2
    ·rw[w2]at e917;simp only[if_true,decide_true,Bool.true_or]at e917;simp[qmN,h1,hlt,h3,zzj,e371,e916,w2,e917,e918,e948,↓qh3,↓qh1,qaf,qh9,qkN,qm5,qrW,↓qvx];repeat' (refine qmT (λh=>?_) (λh=>?_)<;>(try simp at h)<;>(try simp[h,e918,h3]))
     all_goals first|exact qbz (show IsI _ from⟨_,rfl⟩)|exact hx' _ _ (by simp)
    ·by_cases w3:v.Bg.l[i].BX=3
     ·rw[w3]at e917;simp only[if_true,decide_true,Bool.or_true,show ¬((3:Int)=2)by decide,if_false]at e917
      simp[qmN,h1,hlt,h3,zzj,e371,e916,w3,e917,e918,e879,↓qh3,↓qh1,qaf,qh9,qkN,qm5,qrW,↓qvx];repeat' (refine qmT (λh=>?_) (λh=>?_)<;>(try simp at h)<;>(try simp[h,e918,h3]))
      all_goals first|exact qbz (show IsI _ from⟨_,rfl⟩)|exact hx' _ _ (by simp)
     ·rw[if_neg w2,if_neg w3,decide_eq_false w2,decide_eq_false w3,Bool.false_or]at e917;simp[qmN,h1,hlt,h3,zzj,e371,e916,e917,qkN,qrW,↓qvx];repeat' (refine qmT (λh=>?_) (λh=>?_)<;>(try simp at h)<;>(try simp[h,h3]))
      all_goals first|exact qbz (show IsI _ from⟨_,rfl⟩)|exact hx' _ _ (by simp)
   ·have gf:=qad hf
    simp[qmN,h1,hlt,h3,zzj,e371,e916,hf,gf,bne];exact qbz (show IsI _ from⟨_,rfl⟩)
  ·have:i=v.Bg.l.length:=by omega
   subst this;have h1:¬((v.Bg.l.length:Int)<v.Bg.l.length):=by omega
   simp[qmN];exact qbz (show IsI _ from⟨_,rfl⟩)
 ·have ge:=qad he
  simp[F858,Fr.Aa,h0,l0,l1,l2,e801,he,ge,bne];exact qbz (show IsI _ from⟨_,rfl⟩)
def qBx{b:Ap}(hb:b.ok)(id day:Int):(∀r∈((qcS b id day).getD .zero).Bg.l,r.ok)/\((qcS b id day).getD .zero).Bg.l.length<=maxLen:=by
 cases hp:qcS b id day with
 |none=>exact⟨λr hr=>(by cases hr),zzK _⟩
 |some p=>
  have hmem:p∈b.Bh.l:=by
   unfold qcS at hp;split at hp
   ·exact qwM hp
   ·cases hp
  have ho:=hb.2.2.2.2.1.2 p hmem
  exact⟨ho.2.2.2.2.2.2.2.2.2.2.2,ho.2.2.2.2.2.2.2.2.2.2.1⟩
def qAW(l:CF Ac):(qba l).length<=l.length:=zzL (List.length_filter_le _ _) (by have:=qsA l [];simpa using this)
noncomputable def qpb(b:Ap)(id day am n:Int):Int:=if (qdg b id day).2=0 then (if (qdg b id day).1<am then 18 else n)else (qdg b id day).2
noncomputable def qtu(b:Ap)(x:Ac)(day d:Int):Int:=if (qcL b x.Ai).isSome=false then 11 else if qiT b x.Ai day=false then 16 else if qnc b.Bc.l x.Ai day x.Amount=true then 19 else if 0<x.Amount then d else 0
def qR8(T:Tab)(hU:HU T)(hF:HF5 T)(b:Ap)(hb:b.ok)(hbl:b.Bc.l.length<=100000)(id day am n:Int)(e858:T.val 858 [b.dv,((qcS b id day).getD .zero).dv,I id,I day,I am]=some (.d (I n),false)):T.val 768 [b.dv,I id,I day,I am]=some (.d (I (qpb b id day am n)),false):=by
 have e634:=qR1 T hU b id day hb hbl
 have e24:=qC6 T hU b id day hb
 unfold qpb;generalize (qcS b id day).getD .zero=v at *
 generalize (qcS b id day).isSome=s at *
 generalize qdg b id day=a at *
 obtain⟨x,f⟩:=a;simp only at e634⊢;rw[qab T (hF 768 qhK rfl) rfl];by_cases hf:f=0
 ·subst hf;by_cases hx:x<am
  ·simp[qhK,Fr.Aa,e634,e24,e858,hx]
  ·simp[qhK,Fr.Aa,e634,e24,e858,hx]
 ·have gf:=qad hf
  simp[qhK,Fr.Aa,e634,e24,e858,hf,gf,bne]
noncomputable def qfm(b:Ap)(day:Int)(D:Ac->Int)(x:Ac):Int:=if x.Ai<1000 then 0 else qtu b x day (D x)
def qR4(T:Tab)(hU:HU T)(hV:HV T)(hF:HF5 T)(hQ:HQ T)(hN:HN T)(hI:HI T)(b:Ap)(hb:b.ok)(hbl:b.Bc.l.length<=100000)(e:Af)(hl:e.Ad.l.length<=1000)(D:Ac->Int)(hD:∀x∈qba e.Ad.l,T.val 768 [b.dv,I x.Ai,I e.AU,I x.Amount]=some (.d (I (D x)),false)):T.val 674 [b.dv,e.dv]=some (.d (I (if e.Auth=0 then qbc (qfm b e.AU D) (qba e.Ad.l)else 0)),false):=by
 rw[qab T (hF 674 F674 rfl) rfl];by_cases h0:e.Auth=0
 ·rw[if_pos h0];have e110:=qC2 T hN hI e.Ad.l e.Ad.t (by omega)
  have hnl:(qba e.Ad.l).length<=1000:=zzL (qAW e.Ad.l) hl
  generalize qba e.Ad.l=nl at *
  generalize hr:qbc (qfm b e.AU D) nl=R;simp[F674,Fr.Aa,h0,e110];refine qc7 (λi:Nat=>⟨[(17,.d (I i)),(16,.d (I nl.length)),(15,.d (.l (K1 3) (nl.map Ac.dv) false)),(3,.p 0 0 0),(2,.p 1 0 0)],[some (.box (K1 10) (.d e.dv)),some (.box (K1 22) (.d b.dv))]⟩) (λi=>i<=nl.length/\R=qbc (qfm b e.AU D) (nl.drop i)) (λi=>nl.length-i) ?_ 0 ⟨zzK _,hr.symm⟩ (by simp)
  rintro B-i ⟨hi,hs⟩ hx;by_cases hlt:i<nl.length
  ·have h1:(i:Int)<nl.length:=by omega
   have h3:=wr1 (i:=i) (by omega)
   have e768:=hD nl[i] (zzs hlt)
   rw[zzz hlt,qbc]at hs;have hx':=λh=>hx (i+1) ⟨by omega,h⟩ (by omega)
   clear hx
   generalize qbc (qfm b e.AU D) (nl.drop (i+1))=Z at hs hx';unfold qfm at hs;obtain⟨x,hxe⟩:∃x,nl[i]=x:=⟨_,rfl⟩;rw[hxe]at hs e768;by_cases ha:x.Ai<1000
   ·rw[if_pos ha,if_pos rfl]at hs;simp[qhS,h1,hlt,h3,hxe,ha,zzj];exact hx' hs _ _ (by simp)
   ·rw[if_neg ha]at hs;unfold qtu at hs;have e12:=qof T hU b x.Ai hb
    have e39:=qvJ T hV hU b x.Ai e.AU hb
    have e767:=qDq T hU hQ b.Bc.l b.Bc.t x.Ai e.AU x.Amount hbl
    generalize (qcL b x.Ai).getD .zero=acc at *
    generalize (qcL b x.Ai).isSome=s at *
    generalize qiT b x.Ai e.AU=ac at *
    generalize qnc b.Bc.l x.Ai e.AU x.Amount=de at *
    generalize D x=n at *
    cases s with
    |false=>
     simp at hs;simp[qhS,h1,hlt,h3,hxe,ha,zzj,e12];rw[hs]
    |true=>
     cases ac with
     |false=>
      simp at hs;simp[qhS,h1,hlt,h3,hxe,ha,zzj,e12,e39];rw[hs]
     |true=>
      cases de with
      |true=>
       simp at hs;simp[qhS,h1,hlt,h3,hxe,ha,zzj,e12,e39,e767];rw[hs]
      |false=>
       by_cases hp:0<x.Amount
       ·by_cases hn:n=0
        ·subst hn;simp at hs;simp[qhS,h1,hlt,h3,hxe,ha,zzj,e12,e39,e767,hp,e768];exact hx' hs _ _ (by simp)
        ·have gn:=qad hn
         simp[hp,hn]at hs;simp[qhS,h1,hlt,h3,hxe,ha,zzj,e12,e39,e767,hp,e768,hn,gn,bne];rw[hs]
       ·simp[hp]at hs;simp[qhS,h1,hlt,h3,hxe,ha,zzj,e12,e39,e767,hp];exact hx' hs _ _ (by simp)
  ·have:i=nl.length:=by omega
   subst this;rw[zzF (zzt _),qbc]at hs;have h1:¬((nl.length:Int)<nl.length):=by omega
   simp[qhS];rw[hs]
 ·have g:=qad h0
  rw[if_neg h0];simp[F674,Fr.Aa,h0,g,bne]
end
end
def qp4{α:Type}{f:α->DV}{P:α->Prop}:∀{es:Ct},(∀e∈es,∃x,e=f x/\P x)->∃l:CF α,es=l.map f/\∀y∈l,P y
 |[],_=>⟨[],rfl,λy hy=>by cases hy⟩
 |e::es,h=>by
  obtain⟨x,hx,px⟩:=h e (zzr ..);obtain⟨l,hl,pl⟩:=qp4 λe' he=>h e' (zzi _ he)
  refine⟨x::l,by rw[hx,hl];rfl,λy hy=>?_⟩
  rcases List.mem_cons.1 hy with rfl|hy
  ·exact px
  ·exact pl y hy
def qJx{d:Nat}{cs:Ct}{e:DV}(he:mkD (K1 3) cs=some e)(h:HsL d qCN cs):∃x:Ac,e=x.dv/\x.ok:=by
 obtain⟨w1,r1,rfl,⟨a,rfl,h1⟩,c2⟩:=qaU h;obtain⟨w2,r2,rfl,⟨b,rfl,h2⟩,c3⟩:=qaU c2;obtain⟨w3,r3,rfl,⟨s,rfl,h3⟩,c4⟩:=qaU c3;obtain rfl:=qbQ c4;exact⟨⟨a,b,s⟩,(Option.some.inj he).symm,h1,h2,h3⟩
def qGd{d:Nat}{x:DV}(h:HsK d (K1 10,qlo) x):∃e:Af,x=e.dv/\e.ok:=by
 obtain⟨cs,c1,c2⟩:=h;obtain⟨w1,r1,rfl,⟨a1,rfl,h1⟩,d1⟩:=qaU c2;obtain⟨w2,r2,rfl,⟨a2,rfl,h2⟩,d2⟩:=qaU d1;obtain⟨w3,r3,rfl,⟨a3,rfl,h3⟩,d3⟩:=qaU d2;obtain⟨w4,r4,rfl,⟨a4,rfl,h4⟩,d4⟩:=qaU d3;obtain⟨w5,r5,rfl,⟨a5,rfl,h5⟩,d5⟩:=qaU d4;obtain⟨w6,r6,rfl,⟨a6,rfl,h6⟩,d6⟩:=qaU d5;obtain⟨w7,r7,rfl,⟨a7,rfl,h7⟩,d7⟩:=qaU d6;obtain⟨w8,r8,rfl,⟨a8,rfl,h8⟩,d8⟩:=qaU d7;obtain⟨w9,r9,rfl,⟨es,t,rfl,h9,_,h9b⟩,d9⟩:=qaU d8;obtain⟨w10,r10,rfl,⟨a10,rfl,h10⟩,d10⟩:=qaU d9;obtain rfl:=qbQ d10;obtain⟨l,rfl,hl⟩:=qp4 (f:=Ac.dv) (P:=Ac.ok) (es:=es) λe he=>by
  obtain⟨cs,q1,q2⟩:=h9b e he;exact qJx q1 q2
 refine⟨⟨a1,a2,a3,a4,a5,a6,a7,a8,⟨l,t⟩,a10⟩,(Option.some.inj c1).symm,h1,h2,h3,h4,h5,h6,h7,h8,⟨?_,hl⟩,h10⟩;simpa using h9
def qJv(x:Ac):(Lit.int .i64 (qcf x)).wf=true:=by unfold qcf;split<;>(try split)<;>decide
def qAc:∀l:CF Ac,(Lit.int .i64 (qb8 l)).wf=true
 |[]=>by decide
 |x::l=>by
  unfold qb8;split
  ·exact qAc l
  ·exact qJv x
def qFw(e:Af):(Lit.int .i64 (qcc e)).wf=true:=by
 unfold qcc;split
 ·split
  ·split
   ·decide
   ·split
    ·split<;>decide
    ·exact qAc _
  ·decide
 ·decide
def qG2(T:Tab)(hP:HP T):qak T 679 qu7:=by
 intro d ds hd;cases ds with
 |nil=>exact hd.elim
 |cons x ds=>
  cases ds with
  |cons=>exact hd.2.elim
  |nil=>
   obtain⟨e,rfl,he⟩:=qGd hd.1;exact⟨[I (qcc e)],false,qDl T hP e he,qdo (qFw e),trivial⟩
section
attribute [local simp ↓] qgU qgS qgJ qgT qgG qgL qgH qgI sqK blK lpK qgZ qgX qgV qgY qgW qgz qgB qhC qga qf8 qf9 qgd qfC qfD qfn qfq qfB qfF qfp qfG qfv qfx qfy qfz qfE qfA qfo qfr qeK qfs qfw qf6 qf3 qfJ qfI qfR qfK qcZ qdA qfL qfM qg1 qeX qg0 qhz qe8 qfY qfZ qfS qfU qfT qeM qf7 qeN qfO qf2 qfW qfV qfQ qfP qf1 qf4 qfN qf0 qgA qeL qe7 qgq qe4 qb4 qgr qeO qeP qf5 qcs qhx qft qgb qgc qg5 qhA qg2 qgM qgN qgO qgP qgQ qgR qfu qgp qh0 qiZ qi0 qiX qiY qiV qhX qi4 qi1 qjA qi2 qjU qkA qfX
attribute [local simp] qck qg7 qg9 qgv qgw qgl qgm qhv qhw qgs qgt rd IOp.adds qao gh nid rgK rdS qgx qgy qhd qhe qhj qhk qhn qhi qhm qhl qfh qff qfg qhh qhg qgo qgn qhp qho qhq qhr qia qh8 qic qib qim qdk qiq qjL qjk qjK qjJ
section
attribute [local simp ↓] qcp qcq qb7 qdH qcN qew qbY qb1 qdj qdV qdW qdh qdi qb0 qdB qcd qd1 qd0 qd7 qej qdZ qeh qeg qcm qd3 qc2 qd4 qd6 qd5 qd8 qd2 qea qec qef qee qed qd9 qeb qei qdX qdY
attribute [local simp] qb9 qbr AA AP qaE qa8 chg qbj runs qa6 qbg PV.refs PV.AL IOp.okD IOp.barr qci Nat.testBit
attribute [local simp] gc Fr.keep qap qam qae PV.refs PV.AL qaG gcH qav Obj.refs PV.ren PV.Bt Obj.ren Heap.obj Fr.ren gh zzd
def qGT{d:Nat}{cs:Ct}{e:DV}(he:mkD (K1 4) cs=some e)(h:HsL d tGl cs):∃x:AGl,e=x.dv/\x.ok:=by
 obtain⟨w1,r1,rfl,⟨a,rfl,h1⟩,c2⟩:=qaU h;obtain⟨w2,r2,rfl,⟨b,rfl,h2⟩,c3⟩:=qaU c2;obtain⟨w3,r3,rfl,⟨c,rfl,h3⟩,c4⟩:=qaU c3;obtain⟨w4,r4,rfl,⟨s,rfl,h4⟩,c5⟩:=qaU c4;obtain rfl:=qbQ c5;exact⟨⟨a,b,c,s⟩,(Option.some.inj he).symm,h1,h2,h3,h4⟩
def qGU{d:Nat}{es:Ct}{t:CG}(h:HsK d (K0,[.l (K1 4) 3518437208883 tGl]) (.l (K1 4) es t)):∃l:CF AGl,es=l.map AGl.dv/\∀y∈l,y.ok:=by
 obtain⟨cs,q1,q2⟩:=h;obtain⟨w,r,rfl,⟨es',t',e,h3,h4,h5⟩,d3⟩:=qaU q2;obtain rfl:=qbQ d3;have e1:w=.l (K1 4) es t:=Option.some.inj q1
 rw[e1]at e;cases e;exact qp4 λe he=>by
  obtain⟨cs,q1,q2⟩:=h5 e he;exact qGT q1 q2
def qD4(T:Tab)(hS:HS T):qak T 1102 qCb:=qaH (hS 1102 qlw rfl) qH8 λ_=>qas (qyH T hS) (qaz)
abbrev AW(l:Ct):Prop:=∀x∈l,∃n,x=I n/\(Lit.int .i64 n).wf=true
def qAm(T:Tab){Q:PV×CG->Prop}(gl:CF AGl)(t:CG)(root:Int)(i:Nat)(hi:i<gl.length)(hgl:gl.length<=3518437208883)(L:Ct)(hL:AW L)(hl:L.length<=3518437208883){k:KC (PV×CG)}{fr:Fr}{H:CP}(j0:Nat)(hj0:j0<=L.length)
  (hk:∀j:Nat,j<=L.length->Anx Q (k (.exit 2) [(49,.d (.b false)),(7,.d (I j)),(6,.d (I i)),(5,qai K0 L),(1,.d (I root)),(0,.d (.l (K1 4) (gl.map AGl.dv) t))] (qar K0 L)))
  (h0:gc [0,1,5,6,7] 0 ⟨fr,H⟩=⟨[(7,.d (I j0)),(6,.d (I i)),(5,qai K0 L),(1,.d (I root)),(0,.d (.l (K1 4) (gl.map AGl.dv) t))],qar K0 L⟩) :
  Anx Q (kC T.env 0 fr H (.h (.loop [0,1,5,6,7] qra,k))):=by
 refine qbV (λj:Nat=>⟨[(7,.d (I j)),(6,.d (I i)),(5,qai K0 L),(1,.d (I root)),(0,.d (.l (K1 4) (gl.map AGl.dv) t))],qar K0 L⟩) (λj=>j<=L.length) id ?_ j0 hj0 h0
 rintro B-j hj hx;have hkj:=hk j hj
 cases j with
 |zero=>
  simp only[Int.ofNat_zero]at hkj;simp[qra];exact hkj
 |succ j=>
  have hov:qai K0 L=.r 0 K0 0 L.length false:=by cases L with|nil=>simp at hj|cons x r=>rfl
  have hoo:qar K0 L=[some (.sl K0 0 L)]:=by cases L with|nil=>simp at hj|cons x r=>rfl
  have hx':=hx j (by omega) (by show j<j+1;omega)
  simp only[hov,hoo]at hkj hx'⊢;obtain⟨n,hn,hnw⟩:=hL L[j] (zzs (by omega))
  have hn':L[j]? = some (I n):=by rw[zze (by omega),hn]
  have sd:∀v,qch K0 v 0 K0=some v:=λv=>rfl
  have c1:((j+1:Nat):Int)=(j:Int)+1:=by omega
  have g1:(0:Int)<(j:Int)+1:=by omega
  have g2:IntKind.i64.wrap ((j:Int)+1-1)=j:=by rw[show (j:Int)+1-1=j by omega];exact wrI (by omega) (by omega)
  have g6:IntKind.i64.wrap (j:Int)=j:=wrI (by omega) (by omega)
  have g3:(j:Int)<L.length:=by omega
  have g4:(i:Int)<gl.length:=by omega
  have g5:j<L.length:=by omega
  rw[c1]at hkj⊢;simp[qra,g1,g2,g6,g3,g4,g5,↓qbJ,hi,hn,sd,zzj];refine qbk (λh=>?_) (λh=>?_)
  ·simp[g6];exact hx' _ _ (by simp)
  ·exact hkj
def qRc(T:Tab)(hS:HS T)(gl:CF AGl)(t:CG)(hgl:gl.length<=3518437208883)(hok:∀y∈gl,y.ok){d:Nat}(hX:HsK d (K0,[.l (K1 4) 3518437208883 tGl]) (.l (K1 4) (gl.map AGl.dv) t))(root:Int)(hr:(Lit.int .i64 root).wf=true):Anx (IsL 3518437208883) (T.val 1101 [.l (K1 4) (gl.map AGl.dv) t,I root]):=by
 rw[qab T (hS 1101 F1101 rfl) rfl];simp[F1101,Fr.Aa];refine qbV (λq:Nat×Ct=>⟨[(6,.d (I q.1)),(5,qai K0 q.2),(1,.d (I root)),(0,.d (.l (K1 4) (gl.map AGl.dv) t))],qar K0 q.2⟩) (λq=>q.1<=gl.length/\q.2.length<=q.1/\AW q.2) (λq=>gl.length-q.1) ?_ (0,[]) ⟨zzK _,zzK _,λx hx=>by cases hx⟩ (by simp[qai,qar])
 rintro B-⟨i,L⟩ ⟨hi,hl,hw⟩ hx;simp only at hi hl hw⊢;by_cases hlt:i<gl.length
 ·have h1:(i:Int)<gl.length:=by omega
  have h3:=wr1 (i:=i) (by omega)
  have wi:(Lit.int .i64 gl[i].Id).wf=true:=(hok _ (zzs hlt)).1
  obtain⟨b1,own1,e596⟩:=qcl (qwz T hS) d (ds:=[.l (K1 4) (gl.map AGl.dv) t,I gl[i].Id]) ⟨hX,qdo wi,trivial⟩;obtain⟨b2,own2,e1102⟩:=qcl (qD4 T hS) d (ds:=[.l (K1 4) (gl.map AGl.dv) t,I gl[i].Id,I root]) ⟨hX,qdo wi,qdo hr,trivial⟩;have hsame:=hx (i+1,L) ⟨by simp only;omega,by simp only;omega,hw⟩ (by simp only;omega)
  have hins:∀A C:Ct,A.length+C.length=L.length->AW (A++I gl[i].Id::C)->_:=λA C hac haw=>hx (i+1,A++I gl[i].Id::C) ⟨by simp only;omega,by simp only[zzp,zzn];omega,haw⟩ (by simp only;omega)
  clear hx
  simp only at hsame hins;cases L with
  |nil=>
   simp only[qai,qar]at hsame⊢;cases b1 with
   |true=>
    simp[qfi,h1,hlt,h3,e596,zzj];exact hsame _ _ (by simp)
   |false=>
    cases b2 with
    |false=>
     simp[qfi,h1,hlt,h3,e596,e1102,zzj];exact hsame _ _ (by simp)
    |true=>
     simp[qfi,h1,hlt,h3,e596,e1102,zzj];refine qAm T gl t root i hlt hgl [] hw (by simp) 0 (zzt _) (λj hj=>?_) (by simp[qai,qar])
     have hj0:j=0:=by simpa using hj
     subst hj0;have hh:=hins [] [] (by simp) (qmW wi hw)
     simp only[List.nil_append,qai,qar]at hh⊢;simp[h1,hlt,h3,↓qhY,↓qky,zzj,qQu,qQv];exact hh _ _ (by simp)
  |cons x r=>
   have hov:qai K0 (x::r)=.r 0 K0 0 (x::r).length false:=rfl
   have hoo:qar K0 (x::r)=[some (.sl K0 0 (x::r))]:=rfl
   have hL0:(x::r)≠[]:=by simp
   generalize x::r=L at *
   simp only[hov,hoo]at hsame⊢;cases b1 with
   |true=>
    simp[qfi,h1,hlt,h3,e596,zzj];exact hsame _ _ (by simp)
   |false=>
    cases b2 with
    |false=>
     simp[qfi,h1,hlt,h3,e596,e1102,zzj];exact hsame _ _ (by simp)
    |true=>
     simp[qfi,h1,hlt,h3,e596,e1102,zzj];refine qAm T gl t root i hlt hgl L hw (by omega) L.length (zzt _) (λj hj=>?_) (by rw[hov,hoo];simp)
     rw[hov,hoo];have s1:=qCw L j hj
     have s2:=qCx L j hj
     have hac:(L.take j).length+(L.drop j).length=L.length:=by rw[zzI,zzJ];omega
     have haw:AW (L.take j++I gl[i].Id::L.drop j):=by
      intro y hy;rcases zzB.1 hy with hy|hy
      ·exact hw y (List.mem_of_mem_take hy)
      ·rcases List.mem_cons.1 hy with rfl|hy
       ·exact⟨_,rfl,wi⟩
       ·exact hw y (List.mem_of_mem_drop hy)
     have hh:=hins _ _ hac haw
     have hC:List.take (L.length-j) (L.drop j)=L.drop j:=zzv (by rw[zzJ];omega)
     have gj:(j:Int)<=L.length:=by omega
     cases j with
     |zero=>
      have s1:∀H,slA (some (.sl K0 0 L)::H) K0 (.r 0 K0 0 L.length false) none (some (.d (I 0))) none=some (.r 0 K0 0 0 false):=qCw L 0 hj
      have s2:∀H,slA (some (.sl K0 0 L)::H) K0 (.r 0 K0 0 L.length false) (some (.d (I 0))) none none=some (.r 0 K0 0 L.length false):=qCx L 0 hj
      simp only[List.take_zero,List.drop_zero,List.nil_append,Nat.sub_zero]at hh hC;have b8:(1+L.length)*8<=140737488355328:=by omega
      have hlen:L.length+1=1+L.length:=by omega
      simp[h1,hlt,h3,↓qhY,↓qky,↓qiW,hL0,zzj,s1,s2,hC,b8];exact hh _ _ (by simp[qai,qar];omega)
     |succ m=>
      obtain⟨n,hn,hnw⟩:=hw L[m] (zzs (by omega))
      have c1:((m+1:Nat):Int)=(m:Int)+1:=by omega
      have g1:(0:Int)<(m:Int)+1:=by omega
      have g6:IntKind.i64.wrap (m:Int)=m:=wrI (by omega) (by omega)
      have g3:(m:Int)<L.length:=by omega
      have g5:m<L.length:=by omega
      have gj2:(m:Int)+1<=L.length:=by omega
      have gj3:m+1<=L.length:=hj
      have gm:(0:Int)<=(m:Int)+1:=by omega
      rw[c1]at s1 s2⊢;simp[h1,hlt,h3,g1,g6,g3,g5,↓qbJ,hn,sdK,zzj];refine qbk (λh=>?_) (λh=>?_)
      ·simp[h1,h3];exact hsame _ _ (by simp)
      ·have hA:List.take (m+1) L≠[]:=by
        intro c
        have:=congrArg List.length c
        rw[zzI,List.length_nil]at this;omega
       have hAl:min (m+1) L.length=m+1:=by omega
       have b8:(m+1)*8<=140737488355328:=by omega
       have b9:(m+1+1)*8<=140737488355328:=by omega
       have b10:(m+1+1+(L.length-(m+1)))*8<=140737488355328:=by omega
       have hAt:List.take (m+1) (List.take (m+1) L)=List.take (m+1) L:=zzv (by rw[zzI];omega)
       have hAt2:List.take (m+1+1) (List.take (m+1) L++[I gl[i].Id])=List.take (m+1) L++[I gl[i].Id]:=zzv (by rw[zzp,zzI];simp;omega)
       have l2:m+1+(L.length-(m+1))=L.length:=by omega
       by_cases hB:List.drop (m+1) L=[]
       ·have hBl:L.length-(m+1)=0:=by rw[<-zzJ,hB];rfl
        rw[hB]at hh;simp[h1,hlt,h3,↓qhY,↓qky,↓qiW,hA,hB,hAl,hBl,hAt,hAt2,zzj,s1,s2,hC,b8,b9,b10,gj3,l2];rw[(qqm (by simp)).1,(qqm (by simp)).2]at hh
        exact hh _ _ (by simp[hAl])
       ·simp[h1,hlt,h3,↓qhY,↓qky,↓qiW,hA,hB,hAl,hAt,hAt2,zzj,s1,s2,hC,b8,b9,b10,gj3,l2];rw[(qqm (by simp)).1,(qqm (by simp)).2]at hh
        exact hh _ _ (by simp[hAl];omega)
 ·have h1:¬((i:Int)<gl.length):=by omega
  cases L with
  |nil=>
   simp[qfi,h1,qai,qar];exact qag ⟨[],_,rfl,by simp,hw⟩
  |cons x r=>
   simp[qfi,h1,qai,qar];exact qag ⟨x::r,_,rfl,by omega,hw⟩
def qG0(T:Tab)(hS:HS T):qak T 1101 quO:=by
 intro d ds hd;obtain⟨es,t,n,rfl,h1,hn,hle⟩:=glI hd;obtain⟨gl,rfl,hok⟩:=qGU h1;obtain⟨r,e,hr⟩:=qRc T hS gl t (by simpa using hle) hok h1 n hn
 obtain⟨vs,own,rfl,hv⟩:=qy7 (d:=d) hr (by omega)
 exact⟨vs,own,e,hv⟩
abbrev TWA(l:CF (Cv)):Prop:=∀s∈l,s.length<=maxLen
def qQx(es:Ct)(t:CG)(j:Nat)(hj:j<=es.length)(H:CP):slA H K0 (.d (.l K0 es t)) none (some (.d (I j))) none=some (.d (.l K0 (es.take j) (t&&j==es.length))):=by
 have h1:(0:Int)<=(j:Int)/\(j:Int)<=(es.length:Int):=⟨by omega,by omega⟩
 simp[slA,bnd,asI,K.eq,h1]
def qQy(es:Ct)(t:CG)(j:Nat)(hj:j<=es.length)(H:CP):slA H K0 (.d (.l K0 es t)) (some (.d (I j))) none none=some (.d (.l K0 (es.drop j) t)):=by
 have h1:(0:Int)<=(j:Int)/\(j:Int)<=(es.length:Int):=⟨by omega,by omega⟩
 simp[slA,bnd,asI,K.eq,h1]
def qDT(m:Nat)(r:PV×CG):Prop:=∃(L:CF (Cv)) (own:CG),r=(.d (.l K0 (L.map DV.s) false),own)/\L.length<=m/\TWA L/\L≠[]
def qDw(T:Tab)(hS:HS T)(L:CF (Cv))(t:CG)(hL:L.length<=1000)(hw:TWA L)(s:Cv)(hs:s.length<=maxLen):Anx (qDT (L.length+1)) (T.val 953 [.l K0 (L.map DV.s) t,.s s]):=by
 rw[qab T (hS 953 F953 rfl) rfl];simp[F953,Fr.Aa];refine qbV (λk:Nat=>⟨[(5,.d (I k)),(1,.d (.s s)),(0,.d (.l K0 (L.map DV.s) t))],[]⟩) (λk=>k<=L.length) (λk=>L.length-k) ?_ 0 (zzK _) (by simp)
 rintro B-k hk hx;have tail:∀(c:CF (Nat×PV)->Cz),True:=λ_=>trivial
 clear tail
 have s1:=qQx (L.map DV.s) t k (by simpa using hk)
 have s2:=qQy (L.map DV.s) t k (by simpa using hk)
 have hw':TWA (L.take k++s::L.drop k):=by
  intro y hy;rcases zzB.1 hy with hy|hy
  ·exact hw y (List.mem_of_mem_take hy)
  ·rcases List.mem_cons.1 hy with rfl|hy
   ·exact hs
   ·exact hw y (List.mem_of_mem_drop hy)
 have hll:(L.take k++s::L.drop k).length<=L.length+1:=by
  rw[zzp,zzn,zzI,zzJ];omega
 have b1:k*16<=140737488355328:=by omega
 have b2:(k+1)*16<=140737488355328:=by omega
 have b3:(k+1+(L.length-k))*16<=140737488355328:=by omega
 have m1:min k L.length=k:=by omega
 have gk:(k:Int)<=L.length:=by omega
 have at2:List.take (k+1) (List.take k (L.map DV.s)++[DV.s s])=List.take k (L.map DV.s)++[DV.s s]:=zzv (by rw[zzp,zzI,zzo];simp;omega)
 have at1:List.take k (List.take k (L.map DV.s))=List.take k (L.map DV.s):=zzv (by rw[zzI];omega)
 have le1:k+1+(L.length-k)<=k+(L.length-k+1):=by omega
 have at3:List.take (k+1+(L.length-k)) (List.take k (L.map DV.s)++DV.s s::List.drop k (L.map DV.s))=List.take k (L.map DV.s)++DV.s s::List.drop k (L.map DV.s):=zzv (by simp only[zzp,zzI,zzn,zzJ,zzo];omega)
 have fin:(L.take k++s::L.drop k).map DV.s=List.take k (L.map DV.s)++DV.s s::List.drop k (L.map DV.s):=by simp
 by_cases hlt:k<L.length
 ·have h1:(k:Int)<L.length:=by omega
  have h3:IntKind.i64.wrap ((k:Int)+1)=(k:Int)+1:=wrI (by omega) (by omega)
  have hx':=hx (k+1) (by omega) (by omega)
  have hB:List.drop k (L.map DV.s)≠[]:=by
   intro c
   have:=congrArg List.length c
   rw[zzJ,zzo,List.length_nil]at this;omega
  simp[qwi,h1,hlt,h3,↓qm2,zzj];refine qbk (λh=>?_) (λh=>?_)
  ·simp[h1,h3];exact hx' _ _ (by simp)
  ·simp[h1,hlt,h3,zzj];refine qbk (λh=>?_) (λh=>?_)
   ·cases t
    ·simp;exact qag ⟨L,_,rfl,by omega,hw,λc=>by rw[c]at hlt;simp at hlt⟩
    ·simp;exact qag ⟨L,_,rfl,by omega,hw,λc=>by rw[c]at hlt;simp at hlt⟩
   ·simp[h1,hlt,h3,s1,s2,↓qky,↓qiW,hB,b1,b2,b3,m1,gk,at1,at2,sdK,le1];exact qag ⟨_,_,by rw[at3,fin],hll,hw',by simp⟩
 ·have hk2:k=L.length:=by omega
  have h1:¬((k:Int)<L.length):=by omega
  have hB:List.drop k (L.map DV.s)=[]:=zzF (by simp;omega)
  have b0:L.length-k=0:=by omega
  simp[qwi,h1,s1,s2,↓qky,↓qiW,hB,b0,b1,b2,b3,m1,gk,at1,at2,sdK];exact qag ⟨_,_,by rw[fin,hB],hll,hw',by simp⟩
def qr7:∀(es:Ct) (n m:Int),n<=qbO es n m
 |[],n,m=>by unfold qbO;omega
 |e::es,n,m=>by
  unfold qbO;split
  ·rename_i h;have h1:=(qo2 e (m-n) (by omega)).1
   have:=qr7 es (n+qaN e (m-n)) m
   omega
  ·omega
def qFP{e:DV}{es:Ct}{n m:Int}(h:qbO (e::es) n m<=m):n<=m/\1<=qaN e (m-n)/\qaN e (m-n)<=m-n/\qbO (e::es) n m=qbO es (n+qaN e (m-n)) m:=by
 have h0:=qr7 (e::es) n m
 have hn:n<=m:=by omega
 have e1:qbO (e::es) n m=qbO es (n+qaN e (m-n)) m:=by conv=>lhs;unfold qbO;rw[if_pos hn]
 have h1:=(qo2 e (m-n) (by omega)).1
 have h2:=qr7 es (n+qaN e (m-n)) m
 exact⟨hn,h1,by omega,e1⟩
def qon(m:Int)(r:PV×CG):Prop:=∃(L:CF (Cv)) (own:CG),r=(.d (.l K0 (L.map DV.s) false),own)/\(L.length:Int)<=m/\TWA L
def fNA:CG->CF (Cv)->Fr
 |true,_=>[(3,.r 0 K0 0 1 false),(1,.p 1 0 0)]
 |false,L=>[(3,.d (.l K0 (L.map DV.s) L.isEmpty)),(1,.p 0 0 0)]
def hNA(x:Ag):CG->CF (Cv)->CP
 |true,L=>[some (.sl K0 0 (L.map DV.s)),some (.box (K1 4) (.d x.dv))]
 |false,_=>[some (.box (K1 4) (.d x.dv))]
def qAq(T:Tab)(hS:HS T){Q:PV×CG->Prop}(x:Ag)(i:Nat)(N:CF (Cv))(hN0:TWA N)(sh:CG)(L:CF (Cv))(hsh:sh=true->L.length=1)(hL:TWA L)(hl:L.length+N.length<=500){k:KC (PV×CG)}{fr:Fr}{H:CP}
  (hk:∀sh' L',(sh'=true->L'.length=1)->TWA L'->L'.length<=L.length+N.length->Anx Q (k (.exit 2) ((31,.d (.b false))::(6,.d (I N.length))::(5,.d (.l K0 (N.map DV.s) false))::(4,.d (I i))::fNA sh' L') (hNA x sh' L')))
  (h0:gc [1,3,4,5,6] 0 ⟨fr,H⟩=⟨(6,.d (I 0))::(5,.d (.l K0 (N.map DV.s) false))::(4,.d (I i))::fNA sh L,hNA x sh L⟩) :
  Anx Q (kC T.env 0 fr H (.h (.loop [1,3,4,5,6] qmO,k))):=by
 refine qbV (λq:Nat×CG×CF (Cv)=>⟨(6,.d (I q.1))::(5,.d (.l K0 (N.map DV.s) false))::(4,.d (I i))::fNA q.2.1 q.2.2,hNA x q.2.1 q.2.2⟩) (λq=>q.1<=N.length/\(q.2.1=true->q.2.2.length=1)/\TWA q.2.2/\q.2.2.length<=L.length+q.1) (λq=>N.length-q.1) ?_ (0,sh,L) ⟨zzK _,hsh,hL,by simp⟩ h0
 rintro B-⟨j,sh',L'⟩ ⟨hj,hs',hw',hl'⟩ hx;simp only at hj hs' hw' hl'⊢;have hkj:=hk sh' L' hs' hw' (by omega)
 clear hk
 by_cases hlt:j<N.length
 ·have h1:(j:Int)<N.length:=by omega
  have h3:IntKind.i64.wrap ((j:Int)+1)=(j:Int)+1:=wrI (by omega) (by omega)
  have hs:=hN0 N[j] (zzs hlt)
  cases sh' with
  |true=>
   obtain⟨s0,rfl⟩:∃s0,L'=[s0]:=by
    have:=hs' rfl
    match L',this with
    |[s0],_=>exact⟨s0,rfl⟩
   obtain⟨r,e953,M,own,rfl,hm,hmw,hm0⟩:=qDw T hS [s0] false (by simp) hw' N[j] hs
   have hme:M.isEmpty=false:=by cases M<;>first|rfl|exact absurd rfl hm0
   have hx':=hx (j+1,false,M) ⟨by simp only;omega,(λc=>by cases c),hmw,by simp only at hm⊢;simp only[zzn,List.length_nil]at hm hl';omega⟩ (by simp only;omega)
   clear hx
   simp only[fNA,hNA,hme]at hx'⊢;simp only[zzu,List.map_nil]at e953;simp[qmO,h1,hlt,h3,e953,zzj,qaK,pur,qaW,PV.AX,PV.AV,DV.AX,DV.AV];exact hx' _ _ (by simp[frz,qcM,Heap.put])
  |false=>
   obtain⟨r,e953,M,own,rfl,hm,hmw,hm0⟩:=qDw T hS L' L'.isEmpty (by omega) hw' N[j] hs
   have hme:M.isEmpty=false:=by cases M<;>first|rfl|exact absurd rfl hm0
   have hx':=hx (j+1,false,M) ⟨by simp only;omega,(λc=>by cases c),hmw,by simp only;omega⟩ (by simp only;omega)
   clear hx
   simp only[fNA,hNA,hme]at hx'⊢;simp[qmO,h1,hlt,h3,e953,zzj,qaK,pur,qaW,PV.AX,PV.AV,DV.AX,DV.AV];exact hx' _ _ (by simp)
 ·have hj2:j=N.length:=by omega
  subst hj2;have h1:¬((N.length:Int)<N.length):=by omega
  cases sh' with
  |true=>
   simp only[fNA,hNA]at hkj⊢;simp[qmO,h1];exact hkj
  |false=>
   simp only[fNA,hNA]at hkj⊢;simp[qmO,h1];exact hkj
def qzS{x:Ag}(hx:x.ok):∃l:CF Ag,x.A8.l=l.map Ag.dv/\(∀a∈l,a.ok)/\l.length*56<=140737488355328:=by
 obtain⟨o,m,s,a⟩:=x;obtain⟨a,t⟩:=a;obtain⟨_,_,_,hX⟩:=hx;simp only at hX;obtain⟨h1,l,h2,h3⟩:=qrN hX;refine⟨l,h2,h3,?_⟩;cases hX with|mk _ _ _ h=>rw[h2]at h;simpa[qbf]using h
def qFN(x:Ag)(m:Int):qaN x.dv m=qbO x.A8.l 1 m:=by
 unfold Ag.dv;conv=>lhs;unfold qaN
def qSs(T:Tab)(hS:HS T):∀(n:Nat) (x:Ag),SizeOf.sizeOf x.dv<n->x.ok->∀m:Int,0<=m->m<=200->qaN x.dv m<=m->Anx (qon (qaN x.dv m)) (T.val 922 [x.dv]):=by
 intro n;induction n with
 |zero=>intro x h;exact absurd h (zzm _)
 |succ n ih=>
  intro x hn hx m hm0 hm1 hc;obtain⟨l,h2,h3,h4⟩:=qzS hx;have hcx:=qFN x m
  rw[h2]at hcx;have key:∀(k:KC (PV×CG)) (fr:Fr) (H:CP) (sh:CG) (L:CF (Cv)),(sh=true->L.length=1)->TWA L->L.length<=1->
    (∀sh' L',(sh'=true->L'.length=1)->TWA L'->(L'.length:Int)<=qaN x.dv m->Anx (qon (qaN x.dv m)) (k (.exit 0) ((19,.d (.b false))::(4,.d (I l.length))::fNA sh' L') (hNA x sh' L')))->
    gc [1,3,4] 0 ⟨fr,H⟩=⟨(4,.d (I 0))::fNA sh L,hNA x sh L⟩->Anx (qon (qaN x.dv m)) (kC T.env 0 fr H (.h (.loop [1,3,4] qkt,k))):=by
   intro k fr H sh L hsh hL hl hk h0;refine qbV (λq:Nat×CG×CF (Cv)=>⟨(4,.d (I q.1))::fNA q.2.1 q.2.2,hNA x q.2.1 q.2.2⟩) (λq=>q.1<=l.length/\(q.2.1=true->q.2.2.length=1)/\TWA q.2.2/\∃nn:Int,(q.2.2.length:Int)<=nn/\1<=nn/\qbO ((l.drop q.1).map Ag.dv) nn m=qaN x.dv m) (λq=>l.length-q.1) ?_ (0,sh,L) ⟨zzK _,hsh,hL,1,by simp only;omega,by omega,by simp only[List.drop_zero];exact hcx.symm⟩ h0
   rintro B-⟨i,sh',L'⟩ ⟨hi,hs',hw',nn,hn1,hn2,hn3⟩ hx1;simp only at hi hs' hw' hn1 hn3⊢;by_cases hlt:i<l.length
   ·have h1:(i:Int)<l.length:=by omega
    have h5:IntKind.i64.wrap ((i:Int)+1)=(i:Int)+1:=wrI (by omega) (by omega)
    rw[zzz hlt,zzu]at hn3;have hc2:=hc
    rw[<-hn3]at hc2;obtain⟨p1,p2,p3,p4⟩:=qFP hc2;obtain⟨r,e922,N,own,rfl,hNl,hNw⟩:=ih l[i] (by have:=qrL (x:=x) (a:=l[i]) (by rw[h2];exact List.mem_map_of_mem (zzs hlt));omega) (h3 _ (zzs hlt)) (m-nn) (by omega) (by omega) p3
    have hsm:L'.length+N.length<=500:=by omega
    have fin:∀sh2 L2,(sh2=true->L2.length=1)->TWA L2->L2.length<=L'.length+N.length->∀fr H,gc [1,3,4] 0 ⟨fr,H⟩=⟨(4,.d (I ((i:Int)+1)))::fNA sh2 L2,hNA x sh2 L2⟩->Anx (qon (qaN x.dv m)) (kC T.env 0 fr H (.h (.loop [1,3,4] B,k))):=by
     intro sh2 L2 q1 q2 q3 fr H q4;exact hx1 (i+1,sh2,L2) ⟨by simp only;omega,q1,q2,nn+qaN (Ag.dv l[i]) (m-nn),by simp only;omega,by omega,by simp only;rw[<-p4];exact hn3⟩ (by simp only;omega) fr H (by rw[q4];rfl)
    clear hx1
    cases sh' with
    |true=>
     simp only[fNA,hNA];simp[qkt,h1,hlt,h5,h2,e922,zzj,qaK,pur,qaW,PV.AX,PV.AV,DV.AX,DV.AV];refine qAq T hS x i N hNw true L' hs' hw' hsm (λsh2 L2 q1 q2 q3=>?_) (by simp[fNA,hNA])
     have f2:=fin sh2 L2 q1 q2 q3
     cases sh2 with
     |true=>
      simp only[fNA,hNA]at f2⊢;simp[h5];exact f2 _ _ (by simp)
     |false=>
      simp only[fNA,hNA]at f2⊢;simp[h5];exact f2 _ _ (by simp)
    |false=>
     simp only[fNA,hNA];simp[qkt,h1,hlt,h5,h2,e922,zzj,qaK,pur,qaW,PV.AX,PV.AV,DV.AX,DV.AV];refine qAq T hS x i N hNw false L' hs' hw' hsm (λsh2 L2 q1 q2 q3=>?_) (by simp[fNA,hNA])
     have f2:=fin sh2 L2 q1 q2 q3
     cases sh2 with
     |true=>
      simp only[fNA,hNA]at f2⊢;simp[h5];exact f2 _ _ (by simp)
     |false=>
      simp only[fNA,hNA]at f2⊢;simp[h5];exact f2 _ _ (by simp)
   ·have hi2:i=l.length:=by omega
    subst hi2;have h1:¬((l.length:Int)<l.length):=by omega
    rw[List.drop_length,List.map_nil]at hn3;have hf:(L'.length:Int)<=qaN x.dv m:=by rw[<-hn3];unfold qbO;exact hn1
    have hkk:=hk sh' L' hs' hw' hf
    cases sh' with
    |true=>
     simp only[fNA,hNA]at hkk⊢;simp[qkt,h1,h2];exact hkk
    |false=>
     simp only[fNA,hNA]at hkk⊢;simp[qkt,h1,h2];exact hkk
  have ends:∀sh' (L':CF (Cv)),(sh'=true->L'.length=1)->True:=λ_ _ _=>trivial
  clear ends
  rw[qab T (hS 922 F922 rfl) rfl];have hS0:x.S.length<=maxLen:=hx.2.2.1
  by_cases ho:x.Op=4
  ·simp[F922,Fr.Aa,ho,↓qiW];refine key _ _ _ true [x.S] (λ_=>rfl) (λs hs=>by rw[zzH.1 hs];exact hS0) (zzt _) (λsh' L' q1 q2 q3=>?_) (by simp[fNA,hNA])
   cases sh' with
   |true=>
    obtain⟨s0,rfl⟩:∃s0,L'=[s0]:=by
     have:=q1 rfl
     match L',this with
     |[s0],_=>exact⟨s0,rfl⟩
    simp only[fNA,hNA];simp;exact qag ⟨[s0],_,rfl,q3,q2⟩
   |false=>
    cases L' with
    |nil=>
     simp only[fNA,hNA];simp;exact qag ⟨[],_,rfl,q3,q2⟩
    |cons s0 L'=>
     simp only[fNA,hNA,List.isEmpty_cons];simp;exact qag ⟨s0::L',_,rfl,q3,q2⟩
  ·have go:=qbA ho
   simp[F922,Fr.Aa,ho,go];refine key _ _ _ false [] (λc=>by cases c) (λs hs=>by cases hs) (zzK _) (λsh' L' q1 q2 q3=>?_) (by simp[fNA,hNA])
   cases sh' with
   |true=>
    obtain⟨s0,rfl⟩:∃s0,L'=[s0]:=by
     have:=q1 rfl
     match L',this with
     |[s0],_=>exact⟨s0,rfl⟩
    simp only[fNA,hNA];simp;exact qag ⟨[s0],_,rfl,q3,q2⟩
   |false=>
    cases L' with
    |nil=>
     simp only[fNA,hNA];simp;exact qag ⟨[],_,rfl,q3,q2⟩
    |cons s0 L'=>
     simp only[fNA,hNA,List.isEmpty_cons];simp;exact qag ⟨s0::L',_,rfl,q3,q2⟩
def qDR(r:PV×CG):Prop:=∃n:Int,r=(.d (I n),false)/\(Lit.int .i64 n).wf=true
def qSr(T:Tab)(hT:HU T)(x:Ag)(hx:x.ok)(m:Int)(h0:0<=m)(h1:m<=1000):T.val 919 [x.dv,I m]=some (.d (.b (decide (m<qaN x.dv m))),false):=by
 rw[qab T (hT 919 qhM rfl) rfl];have e:=qDv T hT _ x (Nat.lt_succ_self _) hx m h0 h1
 simp[qhM,Fr.Aa,e]
def qz7(d:Nat)(x:Ag)(hx:x.ok):HsK d (kX 0) x.dv:=by
 obtain⟨o,m,s,a⟩:=x;obtain⟨a,t⟩:=a;obtain⟨h1,h2,h3,hX⟩:=hx;exact qs8 h1 h2 h3 (qwo hX)
def qDF{d:Nat}{v:DV}(h:HsK d (kX 0) v):∃x:Ag,v=x.dv/\x.ok:=by
 obtain⟨o,n,s,a,rfl,h1,h2,h3,⟨k,h4⟩⟩:=qs9 h;have hX:=qwm h4
 cases hX with
 |mk es q1 q2 q3=>exact⟨⟨o,n,s,⟨es,false⟩⟩,rfl,h1,h2,h3,.mk es q1 q2 q3⟩
def qSd(T:Tab)(hS:HS T)(hU:HU T)(x:Ag)(hx:x.ok):Anx qDR (T.val 859 [x.dv]):=by
 have e919:=qSr T hU x hx 64 (by decide) (by decide)
 obtain⟨n920,own1,e920,_⟩:=qdz (qEs T hS) 0 (ds:=[x.dv]) ⟨qz7 0 x hx,trivial⟩;obtain⟨b921,own2,e921⟩:=qcl (qEt T hS) 0 (ds:=[x.dv]) ⟨qz7 0 x hx,trivial⟩;rw[qab T (hS 859 F859 rfl) rfl];by_cases hg:(64:Int)<qaN x.dv 64
 ·simp[F859,Fr.Aa,e919,hg];exact qag ⟨5,rfl,by decide⟩
 by_cases h8:8<n920
 ·simp[F859,Fr.Aa,e919,hg,e920,h8];exact qag ⟨5,rfl,by decide⟩
 cases b921 with
 |false=>
  simp[F859,Fr.Aa,e919,hg,e920,h8,e921];exact qag ⟨1,rfl,by decide⟩
 |true=>
  obtain⟨r,e922,L,own3,rfl,hL,hw⟩:=qSs T hS _ x (Nat.lt_succ_self _) hx 64 (by decide) (by decide) (by omega)
  have hL2:L.length<=64:=by omega
  simp[F859,Fr.Aa,e919,hg,e920,h8,e921,e922];refine qbV (λi:Nat=>⟨[(4,.d (I i)),(3,.d (.l K0 (L.map DV.s) false))],[]⟩) (λi=>i<=L.length) (λi=>L.length-i) ?_ 0 (zzK _) (by simp)
  rintro B-i hi hx1;by_cases hlt:i<L.length
  ·have h1:(i:Int)<L.length:=by omega
   have h3:=wr1 (i:=i) (by omega)
   obtain⟨b,own4,e923⟩:=qcl (qEu T hS) 0 (ds:=[.s L[i]]) ⟨qgC (hw _ (zzs hlt)),trivial⟩;have hx':=hx1 (i+1) (by omega) (by omega)
   cases b with
   |true=>
    simp[qrs,h1,hlt,h3,e923,zzj];exact hx' _ _ (by simp)
   |false=>
    simp[qrs,h1,hlt,h3,e923,zzj];exact qag ⟨4,rfl,by decide⟩
  ·have h1:¬((i:Int)<L.length):=by omega
   simp[qrs,h1];exact qag ⟨0,rfl,by decide⟩
def qG3(T:Tab)(hS:HS T)(hU:HU T):qak T 859 qvb:=by
 intro d ds hd;cases ds with
 |nil=>exact hd.elim
 |cons v ds=>
  cases ds with
  |cons=>exact hd.2.elim
  |nil=>
   obtain⟨x,rfl,hx⟩:=qDF (show HsK d (kX 0) v from hd.1)
   obtain⟨r,e,n,rfl,hn⟩:=qSd T hS hU x hx;exact⟨[I n],false,e,qdo hn,trivial⟩
def qER{T:Tab}{f:Nat}{a:CF (K×CF TA)}(h:qak T f ⟨a,[(none,[.i .i64]),(none,[.b])]⟩)(d:Nat){ds:Ct}(hd:qbm d a ds):∃n b own,T.val f ds=some (.t [.d (I n),.d (.b b)],own)/\(Lit.int .i64 n).wf=true:=by
 obtain⟨vs,own,h1,h2⟩:=h d ds hd;cases vs with
 |nil=>exact h2.elim
 |cons v vs=>
  cases vs with
  |nil=>exact h2.2.elim
  |cons w vs=>
   cases vs with
   |cons=>exact h2.2.2.elim
   |nil=>
    obtain⟨⟨cs,c1,c2⟩,⟨ds,d1,d2⟩,-⟩:=h2;obtain⟨w1,r1,rfl,⟨i,rfl,q1⟩,c3⟩:=qaU c2;obtain rfl:=qbQ c3;obtain⟨w5,r5,rfl,⟨b,rfl⟩,d3⟩:=qaU d2;obtain rfl:=qbQ d3;cases c1;cases d1;exact⟨i,b,own,h1,q1⟩
def qSK{d:Nat}{cs:Ct}{e:DV}(he:mkD (K1 2) cs=some e)(h:HsL d qoe cs):∃x:Au,e=x.dv/\(Lit.int .i64 x.Typ).wf=true:=by
 obtain⟨w1,r1,rfl,⟨s,rfl,h1⟩,c2⟩:=qaU h;obtain⟨w2,r2,rfl,⟨a,rfl,h2⟩,c3⟩:=qaU c2;obtain rfl:=qbQ c3;exact⟨⟨s,a⟩,(Option.some.inj he).symm,h2⟩
def qDS(r:PV×CG):Prop:=∃a b:Int,r=(.t [.d (I a),.d (I b)],false)/\(Lit.int .i64 a).wf=true/\(Lit.int .i64 b).wf=true
def tVA:Ct->PV
 |[]=>.r 0 K0 0 0 true
 |_::r=>.r 0 K0 0 (r.length+1) false
def qSe(T:Tab)(hS:HS T)(V:CF Au)(t:CG)(hVl:V.length<=maxLen)(hV:∀y∈V,(Lit.int .i64 y.Typ).wf=true):∀(n:Nat) (x:Ag),SizeOf.sizeOf x.dv<n->x.ok->Anx qDS (T.val 860 [x.dv,.l (K1 2) (V.map Au.dv) t]):=by
 intro n;induction n with
 |zero=>intro x h;exact absurd h (zzm _)
 |succ n ih=>
  intro x hn hx;have hm:=mxl
  obtain⟨l,h2,h3,h4⟩:=qzS hx;rw[qab T (hS 860 F860 rfl) rfl];by_cases o1:x.Op=1
  ·simp[F860,Fr.Aa,o1];exact qag ⟨1,0,rfl,by decide,by decide⟩
  have g1:=qbA o1
  by_cases o2:x.Op=2
  ·simp[F860,Fr.Aa,o2];exact qag ⟨2,0,rfl,by decide,by decide⟩
  have g2:=qbA o2
  by_cases o3:x.Op=3
  ·simp[F860,Fr.Aa,o3];exact qag ⟨3,0,rfl,by decide,by decide⟩
  have g3:=qbA o3
  by_cases o4:x.Op=4
  ·simp[F860,Fr.Aa,o4];refine qbV (λi:Nat=>⟨[(6,.d (I i)),(2,.p 0 0 0),(1,.d (.l (K1 2) (V.map Au.dv) t))],[some (.box (K1 4) (.d x.dv))]⟩) (λi=>i<=V.length) (λi=>V.length-i) ?_ 0 (zzK _) (by simp)
   rintro B-i hi hx1;by_cases hlt:i<V.length
   ·have h1:(i:Int)<V.length:=by omega
    have h5:IntKind.i64.wrap ((i:Int)+1)=(i:Int)+1:=wrI (by omega) (by omega)
    have wt:=hV V[i] (zzs hlt)
    obtain⟨b,own4,e924⟩:=qcl (qwE T hS) 0 (ds:=[I V[i].Typ]) ⟨qdo wt,trivial⟩;have hx':=hx1 (i+1) (by omega) (by omega)
    by_cases hq:V[i].Name=x.S
    ·cases b with
     |true=>
      simp[qoB,h1,hlt,h5,hq,e924,zzj];exact qag ⟨_,0,rfl,wt,by decide⟩
     |false=>
      simp[qoB,h1,hlt,h5,hq,e924,zzj];exact qag ⟨0,3,rfl,by decide,by decide⟩
    ·have gq:(V[i].Name==x.S)=false:=by simpa using hq
     simp[qoB,h1,hlt,h5,hq,gq,e924,zzj];exact hx' _ _ (by simp)
   ·have h1:¬((i:Int)<V.length):=by omega
    simp[qoB,h1];exact qag ⟨0,4,rfl,by decide,by decide⟩
  have g4:=qbA o4
  simp[F860,Fr.Aa,o1,g1,o2,g2,o3,g3,o4,g4];refine qbV (λq:Nat×Ct=>⟨[(8,.d (I q.1)),(7,tVA q.2),(2,.p 1 0 0),(1,.d (.l (K1 2) (V.map Au.dv) t))],[some (.sl K0 0 q.2),some (.box (K1 4) (.d x.dv))]⟩) (λq=>q.1<=l.length/\q.2.length=q.1/\AW q.2) (λq=>l.length-q.1) ?_ (0,[]) ⟨zzK _,rfl,λy hy=>by cases hy⟩ (by simp[tVA])
  rintro B-⟨i,L⟩ ⟨hi,hl,hw⟩ hx1;simp only at hi hl hw⊢;by_cases hlt:i<l.length
  ·have h1:(i:Int)<l.length:=by omega
   have h5:IntKind.i64.wrap ((i:Int)+1)=(i:Int)+1:=wrI (by omega) (by omega)
   obtain⟨r,e860,a,f,rfl,wa,wf⟩:=ih l[i] (by have:=qrL (x:=x) (a:=l[i]) (by rw[h2];exact List.mem_map_of_mem (zzs hlt));omega) (h3 _ (zzs hlt))
   have hx':=hx1 (i+1,L++[I a]) ⟨by simp only;omega,by simp[hl],λy hy=>by
    rcases zzB.1 hy with hy|hy
    ·exact hw y hy
    ·exact⟨a,zzH.1 hy,wa⟩⟩ (by simp only;omega)
   clear hx1
   by_cases hf:f=0
   ·subst hf;cases L with
    |nil=>
     simp only[List.nil_append,tVA]at hx'⊢;simp[qhT,h1,hlt,h5,h2,e860,zzj];exact hx' _ _ (by simp)
    |cons y L=>
     have b8:(L.length+1+1)*8<=140737488355328:=by simp only[zzn]at hl;omega
     have ht:L.take L.length=L:=zzv (zzt _)
     simp only[List.cons_append,tVA]at hx'⊢;simp[qhT,h1,hlt,h5,h2,e860,zzj,b8,ht];exact hx' _ _ (by simp)
   ·have gf:=qbA hf
    cases L with
    |nil=>
     simp only[tVA];simp[qhT,h1,hlt,h5,h2,e860,zzj,hf,gf,bne];exact qag ⟨0,f,rfl,by decide,wf⟩
    |cons y L=>
     simp only[tVA];simp[qhT,h1,hlt,h5,h2,e860,zzj,hf,gf,bne];exact qag ⟨0,f,rfl,by decide,wf⟩
  ·have hi2:i=l.length:=by omega
   subst hi2;have h1:¬((l.length:Int)<l.length):=by omega
   obtain⟨ty,ok,own5,e925,wty⟩:=qER (qEv T hS) 0 (ds:=[I x.Op,.l K0 L false]) ⟨qdo hx.1,⟨[.l K0 L false],rfl,⟨L,false,rfl,by omega,by omega,λe he=>by
    obtain⟨n,rfl,hn⟩:=hw e he;exact⟨[I n],rfl,⟨n,rfl,hn⟩,trivial⟩⟩,trivial⟩,trivial⟩
   cases ok with
   |true=>
    cases L with
    |nil=>
     simp only[tVA];simp[qhT,h1,h2,e925,qaK,pur,qaW,PV.AX,PV.AV,DV.AX,DV.AV];exact qag ⟨ty,0,rfl,wty,by decide⟩
    |cons y L=>
     have ht:L.take L.length=L:=zzv (zzt _)
     simp only[tVA];simp[qhT,h1,h2,e925,qaK,pur,qaW,PV.AX,PV.AV,DV.AX,DV.AV,ht];exact qag ⟨ty,0,rfl,wty,by decide⟩
   |false=>
    cases L with
    |nil=>
     simp only[tVA];simp[qhT,h1,h2,e925,qaK,pur,qaW,PV.AX,PV.AV,DV.AX,DV.AV];exact qag ⟨0,3,rfl,by decide,by decide⟩
    |cons y L=>
     have ht:L.take L.length=L:=zzv (zzt _)
     simp only[tVA];simp[qhT,h1,h2,e925,qaK,pur,qaW,PV.AX,PV.AV,DV.AX,DV.AV,ht];exact qag ⟨0,3,rfl,by decide,by decide⟩
def qG4(T:Tab)(hS:HS T):qak T 860 qvc:=by
 intro d ds hd;cases ds with
 |nil=>exact hd.elim
 |cons v ds=>
  cases ds with
  |nil=>exact hd.2.elim
  |cons w ds=>
   cases ds with
   |cons=>exact hd.2.2.elim
   |nil=>
    obtain⟨h1,⟨cs,c1,c2⟩,-⟩:=hd;obtain⟨x,rfl,hx⟩:=qDF (show HsK d (kX 0) v from h1)
    obtain⟨w5,r5,rfl,⟨es,t,rfl,q1,_,q2⟩,d3⟩:=qaU c2;obtain rfl:=qbQ d3;cases c1;obtain⟨V,rfl,hV⟩:=qp4 (f:=Au.dv) (P:=λy=>(Lit.int .i64 y.Typ).wf=true) λe he=>by
     obtain⟨cs,z1,z2⟩:=q2 e he;exact qSK z1 z2
    obtain⟨r,e,a,b,rfl,wa,wb⟩:=qSe T hS V t (by simpa using q1) hV _ x (Nat.lt_succ_self _) hx
    exact⟨[I a,I b],false,e,qdo wa,qdo wb,trivial⟩
def qG7(T:Tab)(hS:HS T)(hU:HU T)(hP:HP T):BF T:=⟨qG2 T hP,qG3 T hS hU,qG4 T hS,qGZ T hS,qG1 T hS,qyH T hS,qG0 T hS⟩
def Am(n:Int):Prop:=0<=n/\n<=1000000000000
def IsE(P:Prop)(r:PV×CG):Prop:=∃n own,r=(.d (I n),own)/\(n=0->P)
def IsT(P:Prop)(r:PV×CG):Prop:=∃c own,r=(.d (.b c),own)/\(c=true->P)
def qbw{P:Prop}{n:Int}{own:CG}(h:n≠0):IsE P (.d (I n),own):=⟨n,own,rfl,λh'=>absurd h' h⟩
def qco{P:Prop}{own:CG}:IsT P (.d (.b false),own):=⟨false,own,rfl,λh'=>by cases h'⟩
def qHe{α:Type}{d n m:Nat}{ts:CF TA}{l:CF α}{dv:α->DV}{t:CG}(h1:l.length<=maxLen)(h2:l.length<=m)(h:∀x∈l,HsK d (K1 n,ts) (dv x)):HsK d (K0,[.l (K1 n) m ts]) (.l (K1 n) (l.map dv) t):=
 ⟨[_],rfl,⟨_,t,rfl,by simpa using h1,by simpa using h2,λe he=>by
  obtain⟨x,hx,rfl⟩:=zzN.1 he;exact h x hx⟩,trivial⟩
def qyS(d:Nat)(x:Av)(hx:x.ok):HsK d (K1 6,qlp) x.dv:=
 ⟨x.cells,rfl,⟨_,rfl,hx.1⟩,⟨_,rfl,hx.2.1⟩,⟨_,rfl,hx.2.2.1⟩,⟨_,rfl,hx.2.2.2.1⟩,⟨_,rfl,hx.2.2.2.2.1⟩,⟨_,rfl,hx.2.2.2.2.2⟩,trivial⟩
def qHd(d:Nat)(x:Aq)(hx:x.ok):HsK d (K1 7,qqO) x.dv:=
 ⟨x.cells,rfl,⟨_,rfl,hx.1⟩,⟨_,rfl,hx.2.1⟩,⟨_,rfl,hx.2.2.1⟩,⟨_,rfl,hx.2.2.2.1⟩,⟨_,rfl,hx.2.2.2.2.1⟩,⟨_,rfl,hx.2.2.2.2.2.1⟩,⟨_,rfl,hx.2.2.2.2.2.2⟩,trivial⟩
def qyR(d:Nat)(x:AC)(hx:x.ok):HsK d (K1 7,qod) x.dv:=
 ⟨x.cells,rfl,⟨_,rfl,hx.1⟩,⟨_,rfl,hx.2.1⟩,⟨_,rfl,hx.2.2.1⟩,⟨_,rfl,hx.2.2.2.1⟩,⟨_,rfl,hx.2.2.2.2.1⟩,⟨_,rfl,hx.2.2.2.2.2.1⟩,⟨_,rfl,hx.2.2.2.2.2.2⟩,trivial⟩
def qQz(n:Nat)(es:Ct)(t:CG)(j:Nat)(hj:j<=es.length)(H:CP):slA H (K1 n) (.d (.l (K1 n) es t)) none (some (.d (I j))) none=some (.d (.l (K1 n) (es.take j) (t&&j==es.length))):=by
 have h1:(0:Int)<=(j:Int)/\(j:Int)<=(es.length:Int):=⟨by omega,by omega⟩
 simp[slA,bnd,asI,qck,h1]
def qPl(T:Tab)(hS:HS T)(h:Av)(hh:h.ok):∃n own,T.val 549 [h.dv]=some (.d (I n),own)/\(n=0->Am h.Amount):=by
 obtain⟨n,own,e,-⟩:=qdz (qww T hS) 0 (ds:=[h.dv]) ⟨qyS 0 _ hh,trivial⟩;refine⟨n,own,e,λh0=>?_⟩
 by_cases hb:1<=h.Amount/\h.Amount<=1000000000000
 ·exact⟨by omega,hb.2⟩
 exfalso
 have e':T.val 549 [h.dv]=some (.d (I 1),false):=by
  rw[qab T (hS 549 qeF rfl) rfl];by_cases h1:h.Id<1
  ·simp[qeF,Fr.Aa,h1]
  by_cases h2:h.Ai<1000
  ·simp[qeF,Fr.Aa,h1,h2]
  by_cases h3:h.Amount<1
  ·simp[qeF,Fr.Aa,h1,h2,h3]
  have h4:1000000000000<h.Amount:=by omega
  simp[qeF,Fr.Aa,h1,h2,h3,h4]
 rw[e']at e;subst h0;simp at e
def qPh(T:Tab)(hS:HS T)(l:CF Av)(t:CG)(hl:l.length<=maxLen)(ho:∀y∈l,y.ok):Anx (IsE (∀y∈l,Am y.Amount)) (T.val 510 [.l (K1 6) (l.map Av.dv) t]):=by
 have hm:=mxl
 rw[qab T (hS 510 F510 rfl) rfl];by_cases g64:(64:Int)<l.length
 ·simp[F510,Fr.Aa,g64];exact qag (qbw (by decide))
 simp[F510,Fr.Aa,g64];refine qbV (λi:Nat=>⟨[(3,.d (I i)),(0,.d (.l (K1 6) (l.map Av.dv) t))],[]⟩) (λi=>i<=l.length/\∀(k:Nat) (h:k<l.length),k<i->Am l[k].Amount) (λi=>l.length-i) ?_ 0 ⟨zzK _,λk _ h=>absurd h (zzm _)⟩ (by simp)
 rintro B-i ⟨hi,hg⟩ hx;by_cases hlt:i<l.length
 ·have h1:(i:Int)<l.length:=by omega
  have h3:=wr1 (i:=i) (by omega)
  have hok:=ho _ (zzs hlt)
  obtain⟨n,own1,e549,hn⟩:=qPl T hS l[i] hok;by_cases h0:n=0
  ·subst h0;have hx':=hx (i+1) ⟨by omega,λk hk hki=>by
    by_cases e:k=i
    ·subst e;exact hn rfl
    ·exact hg k hk (by omega)⟩ (by omega)
   have s1:=qQz 6 (l.map Av.dv) t i (by simp;omega)
   generalize (t&&i==(l.map Av.dv).length)=fl at s1;obtain⟨b3,own3,e550⟩:=qcl (qwx T hS) 0 (ds:=[.l (K1 6) ((l.take i).map Av.dv) fl,.s l[i].Key]) ⟨qHe (by rw[zzI];omega) (by rw[zzI];omega) (λx hx=>qyS 0 x (ho x (List.mem_of_mem_take hx))),qgC hok.2.2.2.2.2,trivial⟩
   simp only[List.map_take]at e550;cases i with
   |zero=>
    have s2:∀H,slA H (K1 6) (.d (.l (K1 6) (l.map Av.dv) t)) none (some (.d (I 0))) none=some (.d (.l (K1 6) [] fl)):=λH=>s1 H
    simp only[List.take_zero]at e550;have h1':(0:Int)<l.length:=h1
    have h3':IntKind.i64.wrap 1=1:=rfl
    cases b3 with
    |true=>
     simp[qmJ,h1',hlt,h3',e549,e550,s2,zzj];exact qag (qbw (by decide))
    |false=>
     simp[qmJ,h1',hlt,h3',e549,e550,s2,zzj];exact hx' _ _ (by simp)
   |succ m=>
    have c1:((m+1:Nat):Int)=(m:Int)+1:=by omega
    have g1:(0:Int)<(m:Int)+1:=by omega
    have g0:(0:Int)<=(m:Int)+1:=by omega
    have g6:IntKind.i64.wrap (m:Int)=m:=wrI (by omega) (by omega)
    have g3:(m:Int)<l.length:=by omega
    have g5:m<l.length:=by omega
    rw[c1]at h1 h3 s1⊢;simp[qmJ,h1,hlt,h3,g0,g1,g6,g3,g5,e549,zzj];refine qbk (λh=>?_) (λh=>?_)
    ·simp;exact qag (qbw (by decide))
    ·cases b3 with
     |true=>
      simp[e550,s1,h3,h1,hlt,g0,zzj];exact qag (qbw (by decide))
     |false=>
      simp[e550,s1,h3,h1,hlt,g0,zzj];exact hx' _ _ (by simp)
  ·have g:=qbA h0
   simp[qmJ,h1,hlt,h3,e549,h0,g,bne,zzj];exact qag (qbw h0)
 ·have:i=l.length:=by omega
  subst this;have h1:¬((l.length:Int)<l.length):=by omega
  simp[qmJ,h1];exact qag ⟨0,false,rfl,λ_ y hy=>by obtain⟨k,hk,rfl⟩:=zzO hy;exact hg k hk hk⟩
def qPm(T:Tab)(hS:HS T)(h:Aq)(hh:h.ok):∃c own,T.val 551 [h.dv]=some (.d (.b c),own)/\(c=true->Am h.Amount):=by
 obtain⟨c,own,e⟩:=qcl (qwy T hS) 0 (ds:=[h.dv]) ⟨qHd 0 _ hh,trivial⟩;refine⟨c,own,e,λh0=>?_⟩
 by_cases hb:Am h.Amount
 ·exact hb
 exfalso
 unfold Am at hb;have e':T.val 551 [h.dv]=some (.d (.b false),false):=by
  rw[qab T (hS 551 qde rfl) rfl];by_cases h1:h.Id<1
  ·simp[qde,Fr.Aa,h1]
  by_cases h2:h.Ai<1000
  ·simp[qde,Fr.Aa,h1,h2]
  by_cases h3:h.Kind<1
  ·simp[qde,Fr.Aa,h1,h2,h3]
  by_cases h4:4<h.Kind
  ·simp[qde,Fr.Aa,h1,h2,h3,h4]
  by_cases h5:h.Kind=4
  ·by_cases h6:h.Amount<1
   ·simp[qde,Fr.Aa,h1,h2,h3,h4,h5,h6]
   have h7:1000000000000<h.Amount:=by omega
   simp[qde,Fr.Aa,h1,h2,h3,h4,h5,h6,h7]
  ·have g5:=qbA h5
   have h6:h.Amount≠0:=by omega
   have g6:=qbA h6
   simp[qde,Fr.Aa,h1,h2,h3,h4,h5,g5,h6,g6,bne]
 rw[e']at e;subst h0;simp at e
def qPi(T:Tab)(hS:HS T)(l:CF Aq)(t:CG)(hl:l.length<=maxLen)(ho:∀y∈l,y.ok):Anx (IsE (∀y∈l,Am y.Amount)) (T.val 511 [.l (K1 7) (l.map Aq.dv) t]):=by
 have hm:=mxl
 rw[qab T (hS 511 F511 rfl) rfl];by_cases g64:(64:Int)<l.length
 ·simp[F511,Fr.Aa,g64];exact qag (qbw (by decide))
 simp[F511,Fr.Aa,g64];refine qbV (λi:Nat=>⟨[(3,.d (I i)),(0,.d (.l (K1 7) (l.map Aq.dv) t))],[]⟩) (λi=>i<=l.length/\∀(k:Nat) (h:k<l.length),k<i->Am l[k].Amount) (λi=>l.length-i) ?_ 0 ⟨zzK _,λk _ h=>absurd h (zzm _)⟩ (by simp)
 rintro B-i ⟨hi,hg⟩ hx;by_cases hlt:i<l.length
 ·have h1:(i:Int)<l.length:=by omega
  have h3:=wr1 (i:=i) (by omega)
  have hok:=ho _ (zzs hlt)
  obtain⟨c,own1,e551,hn⟩:=qPm T hS l[i] hok;obtain⟨c2,own2,e552⟩:=qcl (qrE T hS) 0 (ds:=[.s l[i].Source]) ⟨qgC hok.2.2.2.2.2.2,trivial⟩;cases c with
  |false=>
   simp[qmK,h1,hlt,h3,e551,zzj];exact qag (qbw (by decide))
  |true=>
   have hx':=hx (i+1) ⟨by omega,λk hk hki=>by
    by_cases e:k=i
    ·subst e;exact hn rfl
    ·exact hg k hk (by omega)⟩ (by omega)
   cases c2 with
   |false=>
    simp[qmK,h1,hlt,h3,e551,e552,zzj];exact qag (qbw (by decide))
   |true=>
    cases i with
    |zero=>
     have h1':(0:Int)<l.length:=h1
     have h3':IntKind.i64.wrap 1=1:=rfl
     simp[qmK,h1',hlt,h3',e551,e552,zzj];exact hx' _ _ (by simp)
    |succ m=>
     have c1:((m+1:Nat):Int)=(m:Int)+1:=by omega
     have g1:(0:Int)<(m:Int)+1:=by omega
     have g0:(0:Int)<=(m:Int)+1:=by omega
     have g6:IntKind.i64.wrap (m:Int)=m:=wrI (by omega) (by omega)
     have g3:(m:Int)<l.length:=by omega
     have g5:m<l.length:=by omega
     rw[c1]at h1 h3⊢;simp[qmK,h1,hlt,h3,g0,g1,g6,g3,g5,e551,e552,zzj];refine qbk (λh=>?_) (λh=>?_)
     ·simp;exact qag (qbw (by decide))
     ·simp[h3];exact hx' _ _ (by simp)
 ·have:i=l.length:=by omega
  subst this;have h1:¬((l.length:Int)<l.length):=by omega
  simp[qmK,h1];exact qag ⟨0,false,rfl,λ_ y hy=>by obtain⟨k,hk,rfl⟩:=zzO hy;exact hg k hk hk⟩
def qQ7{vs:Ct}(h599:qbm 0 s599.res vs):∃v0 v1,vs=[v0,v1]/\(∃cu:Bv,v0=cu.dv)/\(∃c2,v1=.b c2):=by
 match vs,h599 with
 |[v0,v1],⟨⟨cs,k1,k2⟩,⟨cs',k1',k2'⟩,_⟩=>
  obtain⟨w,r,rfl,⟨s,rfl,_⟩,k3⟩:=qaU k2;obtain⟨w',r',rfl,⟨m,rfl,_⟩,k4⟩:=qaU k3;obtain rfl:=qbQ k4;obtain⟨w,r,rfl,⟨b,rfl⟩,k5⟩:=qaU k2';obtain rfl:=qbQ k5;cases k1;cases k1'
  exact⟨_,_,rfl,⟨⟨s,m⟩,rfl⟩,⟨b,rfl⟩⟩
def qQ6{ws:Ct}(h513:qbm 0 s513.res ws):∃w0 w1,ws=[w0,w1]/\(∃q0 q1 q2,w0=.a [q0,q1,q2])/\(∃c3,w1=.b c3):=by
 match ws,h513 with
 |[v0,v1],⟨⟨cs,k1,k2⟩,⟨cs',k1',k2'⟩,_⟩=>
  obtain⟨w,r,rfl,⟨b,rfl⟩,k5⟩:=qaU k2';obtain rfl:=qbQ k5;obtain⟨q0,r0,rfl,_,k6⟩:=qaU k2;obtain⟨q1,r1,rfl,_,k7⟩:=qaU k6;obtain⟨q2,r2,rfl,_,k8⟩:=qaU k7;obtain rfl:=qbQ k8;cases k1;cases k1'
  exact⟨_,_,rfl,⟨_,_,_,rfl⟩,⟨b,rfl⟩⟩
def qPj(T:Tab)(hS:HS T)(hH:BF T)(p:Ak)(hp:HsK 0 (K1 19,qdM) p.dv)(hn:p.Name.length<=maxLen)(hc:p.Aw.length<=maxLen)(hcal:p.Cc.length<=maxLen)(hf:(Lit.int .i64 p.From).wf=true)(C D:DV)(hC:HsK 0 (K0,[.l (K1 2) 5864062014805 qln]) C)(hD:HsK 0 (K0,[.l (K1 3) 2199023255552 qjT]) D):∃n own,T.val 543 [p.dv,C,D]=some (.d (I n),own)/\(n=0->Am p.BK):=by
 obtain⟨n,own,e,-⟩:=qdz (qwt T hS hH) 0 (ds:=[p.dv,C,D]) ⟨hp,hC,hD,trivial⟩;refine⟨n,own,e,λh0=>?_⟩
 by_cases hb:Am p.BK
 ·exact hb
 exfalso
 unfold Am at hb;obtain⟨c1,o1,e598⟩:=qcl (qmR T hS) 0 (ds:=[.s p.Name]) ⟨qgC hn,trivial⟩;obtain⟨vs,o2,e599,h599⟩:=qrF T hS 0 [C,.s p.Aw] ⟨hC,qgC hc,trivial⟩;obtain⟨ws,o3,e513,h513⟩:=qws T hS 0 [D,.s p.Cc] ⟨hD,qgC hcal,trivial⟩;obtain⟨c4,o4,e544⟩:=qcl (qhU T hS) 0 (ds:=[I p.From]) ⟨qdo hf,trivial⟩;obtain⟨v0,v1,rfl,⟨cu,rfl⟩,⟨c2,rfl⟩⟩:=qQ7 h599;obtain⟨w0,w1,rfl,⟨q0,q1,q2,rfl⟩,⟨c3,rfl⟩⟩:=qQ6 h513;have key:Anx (IsE False) (T.val 543 [p.dv,C,D]):=by
  have hcu:∀x:Bv,fits (K1 2) (.d x.dv)=true:=λ_=>rfl
  simp only[qa5,zzu,List.map_nil]at e599 e513;rw[qab T (hS 543 qdy rfl) rfl];cases c1 with
  |false=>
   simp[qdy,Fr.Aa,e598];exact qag (qbw (by decide))
  |true=>
   cases c2 with
   |false=>
    simp[qdy,Fr.Aa,e598,e599,qdk];exact qag (qbw (by decide))
   |true=>
    cases c3 with
    |false=>
     simp[qdy,Fr.Aa,e598,e599,e513,hcu,qdk];exact qag (qbw (by decide))
    |true=>
     have hq:p.BK<0\/¬p.BK<0/\1000000000000<p.BK:=by omega
     cases c4 with
     |false=>
      simp[qdy,Fr.Aa,e598,e599,e513,hcu,qdk,e544];repeat' (refine qbk (λh=>?_) (λh=>?_)<;>(try simp at h)<;>(try simp[h,e544]))
      all_goals exact qag (qbw (by decide))
     |true=>
      rcases hq with h5|⟨h5,h6⟩
      ·simp[qdy,Fr.Aa,e598,e599,e513,hcu,qdk,e544,h5];repeat' (refine qbk (λh=>?_) (λh=>?_)<;>(try simp at h)<;>(try simp[h,e544,h5]))
       all_goals exact qag (qbw (by decide))
      ·simp[qdy,Fr.Aa,e598,e599,e513,hcu,qdk,e544,h5,h6];repeat' (refine qbk (λh=>?_) (λh=>?_)<;>(try simp at h)<;>(try simp[h,e544,h5,h6]))
       all_goals exact qag (qbw (by decide))
 obtain⟨r,k1,m,own',rfl,k2⟩:=key;rw[k1]at e;subst h0;simp at e;exact k2 e.1
def qE9{b:Ap}(h:qaA Ap.ty b.cells):HsL 0 qcC b.cells:=qvA 0 Ap.ty h
def qPk(T:Tab)(hS:HS T)(hH:BF T)(a:AC)(ha:a.ok):∃c own,T.val 545 [a.dv]=some (.d (.b c),own)/\(c=true->1000<=a.Id):=by
 obtain⟨c,own,e⟩:=qcl (qwu T hS hH) 0 (ds:=[a.dv]) ⟨qyR 0 _ ha,trivial⟩;refine⟨c,own,e,λh0=>?_⟩
 by_cases hb:1000<=a.Id
 ·exact hb
 exfalso
 have e':T.val 545 [a.dv]=some (.d (.b false),false):=by
  rw[qab T (hS 545 qiK rfl) rfl];simp[qiK,Fr.Aa,hb]
 rw[e']at e;subst h0;simp at e
def qPg(T:Tab)(hS:HS T)(hH:BF T)(b:Ap)(hb:b.ok)(ht:HsL 0 qcC b.cells):Anx (IsE (∀y∈b.AZ.l,Am y.Extra/\1000<=y.Id)) (T.val 508 [b.dv]):=by
 have hm:=mxl
 have hl:=hb.2.2.2.2.2.1.1
 rw[qab T (hS 508 F508 rfl) rfl];by_cases g64:(64:Int)<b.AZ.l.length
 ·simp[F508,Fr.Aa,g64];exact qag (qbw (by decide))
 simp[F508,Fr.Aa,g64];refine qbV (λi:Nat=>⟨[(3,.d (I i)),(1,.p 0 0 0)],[some (.box (K1 22) (.d b.dv))]⟩) (λi=>i<=b.AZ.l.length/\∀(k:Nat) (h:k<b.AZ.l.length),k<i->Am b.AZ.l[k].Extra/\1000<=b.AZ.l[k].Id) (λi=>b.AZ.l.length-i) ?_ 0 ⟨zzK _,λk _ h=>absurd h (zzm _)⟩ (by simp)
 rintro B-i ⟨hi,hg⟩ hx;by_cases hlt:i<b.AZ.l.length
 ·have h1:(i:Int)<b.AZ.l.length:=by omega
  have h3:=wr1 (i:=i) (by omega)
  have hok:=hb.2.2.2.2.2.1.2 _ (zzs hlt)
  have hgi:=hg
  obtain⟨a,ha⟩:∃a,b.AZ.l[i]=a:=⟨_,rfl⟩;have hge:(b.AZ.l.map AC.dv)[i]? = some a.dv:=by simp[hlt,ha]
  rw[ha]at hok;obtain⟨c1,own1,e545,hc1⟩:=qPk T hS hH a hok;obtain⟨c2,own2,e544⟩:=qcl (qhU T hS) 0 (ds:=[I a.Closed]) ⟨qdo hok.2.2.1,trivial⟩;obtain⟨n3,own3,e546,-⟩:=qdz (qwv T hS) 0 (ds:=[b.dv,a.dv]) ⟨⟨b.cells,rfl,ht⟩,qyR 0 _ hok,trivial⟩;cases c1 with
  |false=>
   simp[qhR,h1,hlt,h3,ha,e545,e544];repeat' (refine qbk (λh=>?_) (λh=>?_)<;>(try simp at h)<;>(try simp[h,e545,e544]))
   all_goals exact qag (qbw (by decide))
  |true=>
   by_cases hE:Am a.Extra
   ·have hx':=hx (i+1) ⟨by omega,λk hk hki=>by
     by_cases e:k=i
     ·subst e;rw[ha];exact⟨hE,hc1 rfl⟩
     ·exact hg k hk (by omega)⟩ (by omega)
    have h5:¬a.Extra<0:=by have:=hE.1;omega
    have h6:¬1000000000000<a.Extra:=by have:=hE.2;omega
    clear hx hg hgi
    by_cases hn:n3=0
    ·subst hn;cases i with
     |zero=>
      have h1':(0:Int)<b.AZ.l.length:=h1
      have h3':IntKind.i64.wrap 1=1:=rfl
      simp[qhR,h1',hlt,h3',ha,e545,e544,e546,h5,h6];repeat' (refine qbk (λh=>?_) (λh=>?_)<;>(try simp at h)<;>(try simp[h,h1',hlt,h3',ha,e545,e544,e546,h5,h6]))
      all_goals first|exact qag (qbw (by decide))|exact hx' _ _ (by simp)
     |succ m=>
      have c1:((m+1:Nat):Int)=(m:Int)+1:=by omega
      have g1:(0:Int)<(m:Int)+1:=by omega
      have g0:(0:Int)<=(m:Int)+1:=by omega
      have g6:IntKind.i64.wrap (m:Int)=m:=wrI (by omega) (by omega)
      have g3:(m:Int)<b.AZ.l.length:=by omega
      have g5:m<b.AZ.l.length:=by omega
      rw[c1]at h1 h3⊢;simp[qhR,h1,hlt,h3,g0,g1,g6,g3,g5,ha,e545,e544,e546,h5,h6];repeat' (refine qbk (λh=>?_) (λh=>?_)<;>(try simp at h)<;>(try simp[h,h1,hlt,h3,g0,g1,g6,g3,g5,ha,e545,e544,e546,h5,h6]))
      all_goals first|exact qag (qbw (by decide))|exact hx' _ _ (by simp)
    ·have gn:=qbA hn
     cases i with
     |zero=>
      have h1':(0:Int)<b.AZ.l.length:=h1
      have h3':IntKind.i64.wrap 1=1:=rfl
      simp[qhR,h1',hlt,h3',ha,e545,e544,e546,h5,h6,hn,gn,bne];repeat' (refine qbk (λh=>?_) (λh=>?_)<;>(try simp at h)<;>(try simp[h,h1',hlt,h3',ha,e545,e544,e546,h5,h6,hn,gn,bne]))
      all_goals first|exact qag (qbw (by decide))|exact qag (qbw hn)
     |succ m=>
      have c1:((m+1:Nat):Int)=(m:Int)+1:=by omega
      have g1:(0:Int)<(m:Int)+1:=by omega
      have g0:(0:Int)<=(m:Int)+1:=by omega
      have g6:IntKind.i64.wrap (m:Int)=m:=wrI (by omega) (by omega)
      have g3:(m:Int)<b.AZ.l.length:=by omega
      have g5:m<b.AZ.l.length:=by omega
      rw[c1]at h1 h3⊢;simp[qhR,h1,hlt,h3,g0,g1,g6,g3,g5,ha,e545,e544,e546,h5,h6,hn,gn,bne];repeat' (refine qbk (λh=>?_) (λh=>?_)<;>(try simp at h)<;>(try simp[h,h1,hlt,h3,g0,g1,g6,g3,g5,ha,e545,e544,e546,h5,h6,hn,gn,bne]))
      all_goals first|exact qag (qbw (by decide))|exact qag (qbw hn)
   ·unfold Am at hE;have hq:a.Extra<0\/¬a.Extra<0/\1000000000000<a.Extra:=by omega
    rcases hq with h5|⟨h5,h6⟩
    ·simp[qhR,h1,hlt,h3,ha,e545,e544,h5];repeat' (refine qbk (λh=>?_) (λh=>?_)<;>(try simp at h)<;>(try simp[h,e545,e544,h5]))
     all_goals exact qag (qbw (by decide))
    ·simp[qhR,h1,hlt,h3,ha,e545,e544,h5,h6];repeat' (refine qbk (λh=>?_) (λh=>?_)<;>(try simp at h)<;>(try simp[h,e545,e544,h5,h6]))
     all_goals exact qag (qbw (by decide))
 ·have:i=b.AZ.l.length:=by omega
  subst this;have h1:¬((b.AZ.l.length:Int)<b.AZ.l.length):=by omega
  simp[qhR,h1];exact qag ⟨0,false,rfl,λ_ y hy=>by obtain⟨k,hk,rfl⟩:=zzO hy;exact hg k hk hk⟩
def qPf(T:Tab)(hS:HS T)(hH:BF T)(hP:HP T)(b:Ap)(hb:b.ok)(ht:HsL 0 qcC b.cells)(hn:b.Ar.l.length<=1000):Anx (IsT (∀e∈b.Ar.l,qcc e=0)) (T.val 1099 [b.dv]):=by
 have hm:=mxl
 rw[qab T (hS 1099 qiF rfl) rfl];simp[qiF,Fr.Aa];refine qbV (λi:Nat=>⟨[(3,.d (I i)),(1,.p 0 0 0)],[some (.box (K1 22) (.d b.dv))]⟩) (λi=>i<=b.Ar.l.length/\∀(k:Nat) (h:k<b.Ar.l.length),k<i->qcc b.Ar.l[k]=0) (λi=>b.Ar.l.length-i) ?_ 0 ⟨zzK _,λk _ h=>absurd h (zzm _)⟩ (by simp)
 rintro B-i ⟨hi,hg⟩ hx;by_cases hlt:i<b.Ar.l.length
 ·have h1:(i:Int)<b.Ar.l.length:=by omega
  have h3:=wr1 (i:=i) (by omega)
  have hok:=hb.2.2.2.2.2.2.1.2 _ (zzs hlt)
  have htj:∀x∈b.Ar.l,HsK 0 (K1 10,qlo) x.dv:=by
   obtain⟨es,t,e,_,_,h⟩:=ht.2.2.2.2.2.2.2.2.2.2.2.2.2.2.2.2.2.2.2.1;injection e with _ e _
   subst e;exact λx hx=>h _ (List.mem_map_of_mem hx)
  obtain⟨a,ha⟩:∃a,b.Ar.l[i]=a:=⟨_,rfl⟩;have hge:(b.Ar.l.map Af.dv)[i]? = some a.dv:=by simp[hlt,ha]
  have hta:=htj _ (zzs hlt)
  rw[ha]at hok hta;have e679:=qDl T hP a hok
  obtain⟨c2,own2,e1100⟩:=qcl (qwq T hS hH) 0 (ds:=[b.dv,a.dv]) ⟨⟨b.cells,rfl,ht⟩,hta,trivial⟩;generalize hce:qcc a=ce at *
  by_cases h0:ce=0
  ·subst h0;have hx':=hx (i+1) ⟨by omega,λk hk hki=>by
    by_cases e:k=i
    ·subst e;rw[ha];exact hce
    ·exact hg k hk (by omega)⟩ (by omega)
   clear hx hg
   cases c2 with
   |false=>
    cases i with
    |zero=>
     have h1':(0:Int)<b.Ar.l.length:=h1
     simp[qiP,h1',hlt,ha,e679,e1100];repeat' (refine qbk (λh=>?_) (λh=>?_)<;>(try simp at h)<;>(try simp[h,e679,e1100]))
     all_goals exact qag qco
    |succ m=>
     have c1:((m+1:Nat):Int)=(m:Int)+1:=by omega
     have g1:(0:Int)<(m:Int)+1:=by omega
     have g0:(0:Int)<=(m:Int)+1:=by omega
     have g6:IntKind.i64.wrap (m:Int)=m:=wrI (by omega) (by omega)
     have g3:(m:Int)<b.Ar.l.length:=by omega
     have g5:m<b.Ar.l.length:=by omega
     rw[c1]at h1 h3⊢;simp[qiP,h1,hlt,h3,g0,g1,g6,g3,g5,ha,e679,e1100,zzj];repeat' (refine qbk (λh=>?_) (λh=>?_)<;>(try simp at h)<;>(try simp[h,h1,hlt,h3,g0,g1,g6,g3,g5,ha,e679,e1100]))
     all_goals exact qag qco
   |true=>
    cases i with
    |zero=>
     have h1':(0:Int)<b.Ar.l.length:=h1
     have h3':IntKind.i64.wrap 1=1:=rfl
     simp[qiP,h1',hlt,h3',ha,e679,e1100];repeat' (refine qbk (λh=>?_) (λh=>?_)<;>(try simp at h)<;>(try simp[h,h1',hlt,h3',ha,e679,e1100]))
     all_goals first|exact qag qco|skip
     all_goals (rw[qgK];simp[qop,h1',hlt,h3',ha,gc];exact hx' _ _ (by simp))
    |succ m=>
     have c1:((m+1:Nat):Int)=(m:Int)+1:=by omega
     have g1:(0:Int)<(m:Int)+1:=by omega
     have g0:(0:Int)<=(m:Int)+1:=by omega
     have g6:IntKind.i64.wrap (m:Int)=m:=wrI (by omega) (by omega)
     have g3:(m:Int)<b.Ar.l.length:=by omega
     have g5:m<b.Ar.l.length:=by omega
     rw[c1]at h1 h3⊢;simp[qiP,h1,hlt,h3,g0,g1,g6,g3,g5,ha,e679,e1100,zzj];repeat' (refine qbk (λh=>?_) (λh=>?_)<;>(try simp at h)<;>(try simp[h,h1,hlt,h3,g0,g1,g6,g3,g5,ha,e679,e1100]))
     all_goals first|exact qag qco|skip
     all_goals
      refine qbV (λk:Nat=>⟨[(5,.d (I k)),(4,.p 0 0 0),(3,.d (I ((m:Int)+1))),(1,.p 1 0 0)],[some (.box (K1 10) (.d a.dv)),some (.box (K1 22) (.d b.dv))]⟩) (λk=>k<=m+1) (λk=>m+1-k) ?_ 0 (zzK _) (by simp)
      rintro B2-k hk hy;by_cases hk':k<m+1
      ·have j1:(k:Int)<(m:Int)+1:=by omega
       have j2:k<b.Ar.l.length:=by omega
       have j4:(k:Int)<b.Ar.l.length:=by omega
       have j3:IntKind.i64.wrap ((k:Int)+1)=(k:Int)+1:=wrI (by omega) (by omega)
       have hy':=hy (k+1) (by omega) (by omega)
       simp[qop,j1,j2,j3,j4,zzj];refine qbk (λh=>?_) (λh=>?_)
       ·simp;exact qag qco
       ·simp[j3];exact hy' _ _ (by simp)
      ·have:k=m+1:=by omega
       subst this;have j1:¬((m:Int)+1<(m:Int)+1):=by omega
       rw[c1];simp[qop,j1,h3];exact hx' _ _ (by simp)
  ·have g:=qbA h0
   clear hx
   simp[qiP,h1,hlt,h3,ha,e679,h0,g,bne];repeat' (refine qbk (λh=>?_) (λh=>?_)<;>(try simp at h)<;>(try simp[h,e679,h0,g,bne]))
   all_goals exact qag qco
 ·have:i=b.Ar.l.length:=by omega
  subst this;have h1:¬((b.Ar.l.length:Int)<b.Ar.l.length):=by omega
  simp[qiP,h1];exact qag ⟨true,false,rfl,λ_ y hy=>by obtain⟨k,hk,rfl⟩:=zzO hy;exact hg k hk hk⟩
def few(b:Ap):Prop:=b.Bu.l.length<=20/\b.Bi.l.length<=10/\b.BG.l.length<=60/\b.Bh.l.length<=20/\b.AZ.l.length<=40/\b.Ar.l.length<=150/\b.Holds.l.length<=100/\b.Bc.l.length<=100
def qPd(T:Tab)(hS:HS T)(b:Ap)(ht:HsL 0 qcC b.cells):∃c own,T.val 1090 [b.dv]=some (.d (.b c),own)/\(c=false->few b):=by
 obtain⟨c,own,e⟩:=qcl (qD0 T hS) 0 (ds:=[b.dv]) ⟨⟨b.cells,rfl,ht⟩,trivial⟩;have hh:=ht.2.2.2.2.2.2.2.2.2.2.2.2.2.2.2.2.2.2.2.2.1
 obtain⟨q,o,e1⟩:=qcl (qwp T hS) 0 (ds:=[.l (K1 6) (b.Holds.l.map Av.dv) b.Holds.t]) ⟨⟨[_],rfl,hh,trivial⟩,trivial⟩;refine⟨c,own,e,λhc=>?_⟩
 subst hc;rw[qab T (hS 1090 qcG rfl) rfl]at e;by_cases h1:(20:Int)<b.Bu.l.length
 ·simp[qcG,Fr.Aa,h1]at e
 by_cases h2:(10:Int)<b.Bi.l.length
 ·simp[qcG,Fr.Aa,h1,h2]at e
 by_cases h3:(60:Int)<b.BG.l.length
 ·simp[qcG,Fr.Aa,h1,h2,h3]at e
 by_cases h4:(20:Int)<b.Bh.l.length
 ·simp[qcG,Fr.Aa,h1,h2,h3,h4]at e
 by_cases h5:(40:Int)<b.AZ.l.length
 ·simp[qcG,Fr.Aa,h1,h2,h3,h4,h5]at e
 by_cases h6:(150:Int)<b.Ar.l.length
 ·simp[qcG,Fr.Aa,h1,h2,h3,h4,h5,h6]at e
 cases q with
 |true=>simp[qcG,Fr.Aa,h1,h2,h3,h4,h5,h6,e1]at e
 |false=>
 by_cases h8:(100:Int)<b.Bc.l.length
 ·simp[qcG,Fr.Aa,h1,h2,h3,h4,h5,h6,e1,h8]at e
 by_cases h7:(100:Int)<b.Holds.l.length
 ·rw[qab T (hS 1094 qhF rfl) rfl]at e1;simp[qhF,Fr.Aa,h7]at e1
 unfold few;omega
structure Raw (T:Tab) (b:Ap):Prop where
 gr:few b
 cu:∃own,T.val 504 [.l (K1 2) (b.Bu.l.map Bv.dv) b.Bu.t]=some (.d (I 0),own)
 pl:∃own,T.val 506 [.l (K1 4) (b.BG.l.map AGl.dv) b.BG.t,b.Bj.dv]=some (.d (I 0),own)
 pr:∀p∈b.Bh.l,∃own,T.val 543 [p.dv,.l (K1 2) (b.Bu.l.map Bv.dv) b.Bu.t,.l (K1 3) (b.Bi.l.map AR.dv) b.Bi.t]=some (.d (I 0),own)
 ac:∃own,T.val 508 [b.dv]=some (.d (I 0),own)
 jo:∃own,T.val 1099 [b.dv]=some (.d (.b true),own)
 ho:∃own,T.val 510 [.l (K1 6) (b.Holds.l.map Av.dv) b.Holds.t]=some (.d (I 0),own)
 bl:∃own,T.val 511 [.l (K1 7) (b.Bc.l.map Aq.dv) b.Bc.t]=some (.d (I 0),own)
def qyT{d:Nat}:∀(n:Nat) {ts:CF TA} {xs:Ct},HsL d ts xs->HsL d (ts.drop n) (xs.drop n)
 |0,_,_,h=>h
 |_+1,[],[],_=>trivial
 |n+1,_::_,_::_,h=>qyT n h.2
 |_+1,[],_::_,h=>h.elim
 |_+1,_::_,[],h=>h.elim
def qyU{d:Nat}:∀(n:Nat) {ts:CF TA} {xs:Ct},HsL d ts xs->HsL d (ts.take n) (xs.take n)
 |0,_,_,_=>trivial
 |_+1,[],[],_=>trivial
 |n+1,_::_,_::_,h=>⟨h.1,qyU n h.2⟩
 |_+1,[],_::_,h=>h.elim
 |_+1,_::_,[],h=>h.elim
def qFb{R:Type}(a b:Cv){d:DV->CE R}:bo (qaI .leq (.d (.s a)) (.d (.s b))) (.h d)=d (.b (Op.bytesLess a b||a==b)):=rfl
def qPu(T:Tab)(hS:HS T)(hH:BF T)(b:Ap)(hb:b.ok)(ht:HsL 0 qcC b.cells):Anx (IsT (Raw T b)) (T.val 1093 [b.dv]):=by
 have hm:=mxl
 obtain⟨c0,o0,e1090,hg⟩:=qPd T hS b ht;rw[qab T (hS 1093 F1093 rfl) rfl];cases c0 with
 |true=>
  simp[F1093,Fr.Aa,e1090];exact qag qco
 |false=>
 have hg:=hg rfl
 have hlen:=hg
 unfold few at hlen;obtain⟨n1,o1,e504,-⟩:=qdz (qD6 T hS) 0 (ds:=[.l (K1 2) (b.Bu.l.map Bv.dv) b.Bu.t]) ⟨⟨[_],rfl,ht.1,trivial⟩,trivial⟩;obtain⟨n2,o2,e506,-⟩:=qdz (qD7 T hS) 0 (ds:=[.l (K1 4) (b.BG.l.map AGl.dv) b.BG.t,b.Bj.dv]) ⟨⟨[_],rfl,ht.2.2.1,trivial⟩,⟨b.Bj.cells,rfl,qyU 14 (qyT 3 ht)⟩,trivial⟩;have hpl:=ht.2.2.2.2.2.2.2.2.2.2.2.2.2.2.2.2.2.1
 obtain⟨n3,o3,e542,-⟩:=qdz (qEg T hS) 0 (ds:=[.l (K1 19) (b.Bh.l.map Ak.dv) b.Bh.t]) ⟨⟨[_],rfl,hpl,trivial⟩,trivial⟩;by_cases z1:n1=0
 ·subst z1;by_cases z2:n2=0
  ·subst z2;by_cases z3:n3=0
   ·subst z3;simp[F1093,Fr.Aa,e1090,e504,e506,e542];refine qbV (λi:Nat=>⟨[(3,.d (I i)),(1,.p 0 0 0)],[some (.box (K1 22) (.d b.dv))]⟩) (λi=>i<=b.Bi.l.length) (λi=>b.Bi.l.length-i) ?_ 0 (zzK _) (by simp)
    rintro B-i hi hx;by_cases hlt:i<b.Bi.l.length
    ·have h1:(i:Int)<b.Bi.l.length:=by omega
     have h3:=wr1 (i:=i) (by omega)
     have hx':=hx (i+1) (by omega) (by omega)
     clear hx
     obtain⟨a,ha⟩:∃a,b.Bi.l[i]=a:=⟨_,rfl⟩;have hge:(b.Bi.l.map AR.dv)[i]? = some a.dv:=by simp[hlt,ha]
     have hta:HsK 0 (K1 3,qjT) a.dv:=by
      obtain⟨es,t,e,_,_,h⟩:=ht.2.1;injection e with _ e _
      subst e;exact h _ (List.mem_of_getElem? hge)
     obtain⟨n4,o4,e538,-⟩:=qdz (qEd T hS) 0 (ds:=[a.dv]) ⟨hta,trivial⟩;by_cases z4:n4=0
     ·subst z4;cases i with
      |zero=>
       have h1':(0:Int)<b.Bi.l.length:=h1
       have h3':IntKind.i64.wrap 1=1:=rfl
       simp[qoo,h1',hlt,h3',ha,e538];exact hx' _ _ (by simp)
      |succ m=>
       have c1:((m+1:Nat):Int)=(m:Int)+1:=by omega
       have g1:(0:Int)<(m:Int)+1:=by omega
       have g0:(0:Int)<=(m:Int)+1:=by omega
       have g6:IntKind.i64.wrap (m:Int)=m:=wrI (by omega) (by omega)
       have g3:(m:Int)<b.Bi.l.length:=by omega
       have g5:m<b.Bi.l.length:=by omega
       rw[c1]at h1 h3⊢;simp[qoo,h1,hlt,h3,g0,g1,g6,g3,g5,ha,e538,zzj,↓qFb];repeat' (refine qbk (λh=>?_) (λh=>?_)<;>(try simp[h3]))
       all_goals first|exact qag qco|exact hx' _ _ (by simp)
     ·have g4:=qbA z4
      simp[qoo,h1,hlt,h3,ha,e538,z4,g4,bne];exact qag qco
    ·have:i=b.Bi.l.length:=by omega
     subst this;have h1:¬((b.Bi.l.length:Int)<b.Bi.l.length):=by omega
     clear hx
     simp[qoo,h1];refine qbV (λi:Nat=>⟨[(4,.d (I i)),(1,.p 0 0 0)],[some (.box (K1 22) (.d b.dv))]⟩) (λi=>i<=b.Bh.l.length/\∀(k:Nat) (h:k<b.Bh.l.length),k<i->∃own,T.val 543 [b.Bh.l[k].dv,.l (K1 2) (b.Bu.l.map Bv.dv) b.Bu.t,.l (K1 3) (b.Bi.l.map AR.dv) b.Bi.t]=some (.d (I 0),own)) (λi=>b.Bh.l.length-i) ?_ 0 ⟨zzK _,λk _ h=>absurd h (zzm _)⟩ (by simp)
     rintro B2-i ⟨hi,hg2⟩ hx;by_cases hlt:i<b.Bh.l.length
     ·have h1:(i:Int)<b.Bh.l.length:=by omega
      have h3:=wr1 (i:=i) (by omega)
      obtain⟨a,ha⟩:∃a,b.Bh.l[i]=a:=⟨_,rfl⟩;have hge:(b.Bh.l.map Ak.dv)[i]? = some a.dv:=by simp[hlt,ha]
      have hta:HsK 0 (K1 19,qdM) a.dv:=by
       obtain⟨es,t,e,_,_,h⟩:=hpl;injection e with _ e _
       subst e;exact h _ (List.mem_of_getElem? hge)
      obtain⟨n5,o5,e543,-⟩:=qdz (qwt T hS hH) 0 (ds:=[a.dv,.l (K1 2) (b.Bu.l.map Bv.dv) b.Bu.t,.l (K1 3) (b.Bi.l.map AR.dv) b.Bi.t]) ⟨hta,⟨[_],rfl,ht.1,trivial⟩,⟨[_],rfl,ht.2.1,trivial⟩,trivial⟩;by_cases z5:n5=0
      ·have hx':=hx (i+1) ⟨by omega,λk hk hki=>by
        by_cases e:k=i
        ·subst e;rw[ha];exact⟨o5,z5▸e543⟩
        ·exact hg2 k hk (by omega)⟩ (by omega)
       clear hx
       subst z5;simp[qiO,h1,hlt,h3,ha,e543];exact hx' _ _ (by simp)
      ·have g5:=qbA z5
       clear hx
       simp[qiO,h1,hlt,h3,ha,e543,z5,g5,bne];exact qag qco
     ·have:i=b.Bh.l.length:=by omega
      subst this;have h1:¬((b.Bh.l.length:Int)<b.Bh.l.length):=by omega
      clear hx
      have hbk:HsK 0 (K1 22,qcC) b.dv:=⟨b.cells,rfl,ht⟩
      obtain⟨n6,o6,e508,-⟩:=qdz (qD8 T hS hH) 0 (ds:=[b.dv]) ⟨hbk,trivial⟩;obtain⟨n7,o7,e1099⟩:=qcl (qD3 T hS hH) 0 (ds:=[b.dv]) ⟨hbk,trivial⟩;obtain⟨n8,o8,e510,-⟩:=qdz (qD9 T hS) 0 (ds:=[.l (K1 6) (b.Holds.l.map Av.dv) b.Holds.t]) ⟨⟨[_],rfl,ht.2.2.2.2.2.2.2.2.2.2.2.2.2.2.2.2.2.2.2.2.1,trivial⟩,trivial⟩;obtain⟨n9,o9,e511,-⟩:=qdz (qEa T hS) 0 (ds:=[.l (K1 7) (b.Bc.l.map Aq.dv) b.Bc.t]) ⟨⟨[_],rfl,ht.2.2.2.2.2.2.2.2.2.2.2.2.2.2.2.2.2.2.2.2.2.1,trivial⟩,trivial⟩;by_cases z6:n6=0
      ·subst z6;cases n7 with
       |false=>
        simp[qiO,h1,e508,e1099];exact qag qco
       |true=>
        by_cases z8:n8=0
        ·subst z8;by_cases z9:n9=0
         ·subst z9;simp[qiO,h1,e508,e1099,e510,e511];exact qag ⟨true,false,rfl,λ_=>⟨hg,⟨_,e504⟩,⟨_,e506⟩,λy hy=>by obtain⟨k,hk,rfl⟩:=zzO hy;exact hg2 k hk hk,⟨_,e508⟩,⟨_,e1099⟩,⟨_,e510⟩,⟨_,e511⟩⟩⟩
         ·have g9:=qbA z9
          simp[qiO,h1,e508,e1099,e510,e511,z9,g9];exact qag qco
        ·have g8:=qbA z8
         simp[qiO,h1,e508,e1099,e510,z8,g8];exact qag qco
      ·have g6:=qbA z6
       simp[qiO,h1,e508,z6,g6];exact qag qco
   ·have g3:=qbA z3
    simp[F1093,Fr.Aa,e1090,e504,e506,e542,z3,g3,bne];exact qag qco
  ·have g2:=qbA z2
   simp[F1093,Fr.Aa,e1090,e504,e506,z2,g2,bne];exact qag qco
 ·have g1:=qbA z1
  simp[F1093,Fr.Aa,e1090,e504,z1,g1,bne];exact qag qco
structure SndB (b:Ap):Prop where
 gr:few b
 pr:∀p∈b.Bh.l,Am p.BK
 ac:∀a∈b.AZ.l,Am a.Extra
 jo:∀e∈b.Ar.l,qcc e=0
 ho:∀h∈b.Holds.l,Am h.Amount
 bl:∀h∈b.Bc.l,Am h.Amount
def qs1{P:Prop}{x:Cz}{own:CG}(h:Anx (IsE P) x)(hx:x=some (.d (I 0),own)):P:=by
 obtain⟨_,h1,n,o,rfl,hp⟩:=h;rw[hx]at h1;simp at h1;exact hp h1.1.symm
def qHA{P:Prop}{x:Cz}{own:CG}(h:Anx (IsT P) x)(hx:x=some (.d (.b true),own)):P:=by
 obtain⟨_,h1,n,o,rfl,hp⟩:=h;rw[hx]at h1;simp at h1;exact hp h1.1
def Raw.snd{T:Tab}(hS:HS T)(hH:BF T)(hP:HP T){b:Ap}(hb:b.ok)(ht:HsL 0 qcC b.cells)(r:Raw T b):SndB b:=by
 have hlen:=r.gr
 unfold few at hlen;obtain⟨_,e1⟩:=r.ac;obtain⟨_,e2⟩:=r.jo;obtain⟨_,e3⟩:=r.ho;obtain⟨_,e4⟩:=r.bl;refine⟨r.gr,λp hp=>?_,λa ha=>(qs1 (qPg T hS hH b hb ht) e1 a ha).1,qHA (qPf T hS hH hP b hb ht (by omega)) e2,qs1 (qPh T hS b.Holds.l b.Holds.t hb.2.2.2.2.2.2.2.1.1 hb.2.2.2.2.2.2.2.1.2) e3,qs1 (qPi T hS b.Bc.l b.Bc.t hb.2.2.2.2.2.2.2.2.1 hb.2.2.2.2.2.2.2.2.2) e4⟩
 obtain⟨_,e5⟩:=r.pr p hp;have hok:=hb.2.2.2.2.1.2 p hp
 have hta:HsK 0 (K1 19,qdM) p.dv:=by
  obtain⟨es,t,e,_,_,h⟩:=ht.2.2.2.2.2.2.2.2.2.2.2.2.2.2.2.2.2.1;injection e with _ e _
  subst e;exact h _ (List.mem_map_of_mem hp)
 obtain⟨n,own,e6,k⟩:=qPj T hS hH p hta hok.1 hok.2.1 hok.2.2.1 hok.2.2.2.1 (.l (K1 2) (b.Bu.l.map Bv.dv) b.Bu.t) (.l (K1 3) (b.Bi.l.map AR.dv) b.Bi.t) ⟨[_],rfl,ht.1,trivial⟩ ⟨[_],rfl,ht.2.1,trivial⟩;rw[e5]at e6;simp at e6;exact k e6.1.symm
def qPe(T:Tab)(hS:HS T)(hH:BF T)(hP:HP T)(b:Ap)(hb:b.ok)(ht:HsL 0 qcC b.cells):Anx (IsT (SndB b)) (T.val 1093 [b.dv]):=by
 obtain⟨_,e,c,own,rfl,h⟩:=qPu T hS hH b hb ht;exact⟨_,e,c,own,rfl,λhc=>(h hc).snd hS hH hP hb ht⟩
def qPb{b:Ap}{id day:Int}{p:Ak}(hp:qcS b id day=some p):p∈b.Bh.l:=by
 unfold qcS at hp;split at hp
 ·exact qwM hp
 ·cases hp
def DG(b:Ap)(day:Int)(x:Ac)(d:Int):Prop:=∃n,d=qpb b x.Ai day x.Amount n
def qEF{b:Ap}{day d:Int}{x:Ac}(hd:DG b day x d)(hc:1000<=x.Ai)(hp:0<x.Amount)(h:qfm b day (λ_=>d) x=0) :
  qiT b x.Ai day=true/\qnc b.Bc.l x.Ai day x.Amount=false/\(qdg b x.Ai day).2=0/\x.Amount<=(qdg b x.Ai day).1:=by
 unfold qfm qtu at h;rw[if_neg (by omega)]at h
 split at h
 ·exact absurd h (by decide)
 split at h
 ·exact absurd h (by decide)
 rename_i ha;split at h
 ·exact absurd h (by decide)
 rename_i hn;have h:d=0:=h
 obtain⟨n,rfl⟩:=hd;unfold qpb at h;split at h
 ·rename_i h2;split at h
  ·exact absurd h (by decide)
  ·rename_i h3;exact⟨by simpa using ha,by simpa using hn,h2,by omega⟩
 ·rename_i h2;exact absurd h h2
def qLc{l:CF Ac}:∀x∈qba l,x.Amount≠0:=λx hx=>by
 have:=(List.mem_filter.1 hx).2
 simpa using this
def qSN(n:Int) : -9223372036854775808<=w64 n/\w64 n<9223372036854775808:=by
 unfold w64;rw[IntKind.wrap_i64];omega
def qwH(x:Ac)(hx : -9223372036854775808<=x.Amount/\x.Amount<9223372036854775808):∀(g:CF Ac),(∀y∈g,-9223372036854775808<=y.Amount/\y.Amount<9223372036854775808)->∀y∈qaV g x,-9223372036854775808<=y.Amount/\y.Amount<9223372036854775808
 |[],_,y,hy=>by simp[qaV]at hy;subst hy;exact hx
 |z::r,h,y,hy=>by
  unfold qaV at hy;split at hy
  ·rcases List.mem_cons.1 hy with rfl|hy
   ·exact h _ (zzr ..)
   ·exact qwH x hx r (λw hw=>h w (zzi _ hw)) y hy
  ·split at hy
   ·rcases List.mem_cons.1 hy with rfl|hy
    ·exact hx
    ·exact h y hy
   ·rcases List.mem_cons.1 hy with rfl|hy
    ·exact qSN _
    ·exact h y (zzi _ hy)
def qEP{l:CF Ac}(h:∀x∈l,BdA x.Amount):∀x∈qba l,-9223372036854775808<=x.Amount/\x.Amount<9223372036854775808:=by
 have key:∀(l g:CF Ac),(∀x∈l,BdA x.Amount)->(∀y∈g,-9223372036854775808<=y.Amount/\y.Amount<9223372036854775808)->∀y∈l.foldl qaV g,-9223372036854775808<=y.Amount/\y.Amount<9223372036854775808:=by
  intro l;induction l with
  |nil=>intro g _ h;exact h
  |cons x l ih=>
   intro g h hg;have hx:=h x (zzr ..)
   unfold BdA at hx;exact ih _ (λy hy=>h y (zzi _ hy)) (qwH x ⟨by omega,by omega⟩ g hg)
 exact λx hx=>key l [] h (λy hy=>by cases hy) x ((List.mem_filter.1 hx).1)
def qJw{b:Ap}(s:SndB b){e:Af}(he:qcc e=0){i:Nat}(hi:i<(qba e.Ad.l).length){f:Int}(hf:qeS b (qba e.Ad.l)[i].Ai e.AU=(f,0))(hav:(qdg b (qba e.Ad.l)[i].Ai e.AU).2=0)
  (hal:(qba e.Ad.l)[i].Amount<=(qdg b (qba e.Ad.l)[i].Ai e.AU).1) (hu:∀(k:Nat) (hk:k<(qba e.Ad.l).length),k≠i->(qba e.Ad.l)[k].Ai≠(qba e.Ad.l)[i].Ai) :
  w64 (w64 (f+qev b.Holds.l (qba e.Ad.l)[i].Ai e.AU)+qeB b.Bc.l (qba e.Ad.l)[i].Ai e.AU)<=ofR (b.Ar.l++[e]) (qba e.Ad.l)[i].Ai:=by
 have h1:=qQD _ i hi hu
 obtain⟨k,hk⟩:=qQC (qba e.Ad.l)[i].Ai e.Ad.l;rw[h1]at hk;have hlen:=s.gr
 unfold few at hlen;have hho:b.Holds.l.length<=100:=by omega
 unfold qdg at hal;rw[hf]at hal;simp only[if_true]at hal;have hr:=qEP (qge he).2 _ (zzs hi)
 generalize (qba e.Ad.l)[i]=y at *
 unfold qeS at hf;split at hf
 ·rename_i a p ha hp;have h2:a∈b.AZ.l:=by
   unfold qcL at ha;cases hj:b.AZ.l.findIdx? (qjG y.Ai)with
   |none=>rw[hj]at ha;cases ha
   |some j=>rw[hj]at ha;exact List.mem_of_getElem? ha
  have h3:p∈b.Bh.l:=qPb hp
  injection hf with hf _
  exact qGY s.jo he (by omega) hho (by omega) s.ho s.bl (s.pr p h3) (s.ac a h2) hf.symm ⟨k,hk⟩ hr hal
 ·injection hf with _ hf;exact absurd hf (by decide)
def qBg{a b c:Prop}(h:a\/c)(f:a->b):b\/c:=h.elim (λx=>.inl (f x)) .inr
def qJM(T:Tab)(h:HAll T)(b:Ap)(hb:b.ok)(e:Af)(he:e.ok)(s:SndB b)(hc:qcc e=0)(hbl:b.Bc.l.length<=100000)(hjl:b.Ar.l.length<=150)(D:Ac->Int)(hD:∀x∈qba e.Ad.l,T.val 768 [b.dv,I x.Ai,I e.AU,I x.Amount]=some (.d (I (D x)),false)/\DG b e.AU x (D x))(hall:∀x∈qba e.Ad.l,qfm b e.AU D x=0){k:KC (PV×CG)}{fr:Fr}{H:CP}(hk:Anx (λr=>r=(.d (.b true),false)) (k (.exit 0) [(46,.d (.b false)),(7,.d (I (qba e.Ad.l).length)),(6,.d (.l (K1 3) ((qba e.Ad.l).map Ac.dv) false)),(5,.r 0 (K1 10) 0 (b.Ar.l.length+1) false),(3,.p 1 0 0),(2,.p 2 0 0)] [some (.sl (K1 10) 0 (b.Ar.l.map Af.dv++[e.dv])),some (.box (K1 10) (.d e.dv)),some (.box (K1 22) (.d b.dv))]))
  (h0:gc [2,3,5,6,7] 0 ⟨fr,H⟩=⟨[(7,.d (I (0:Int))),(6,.d (.l (K1 3) ((qba e.Ad.l).map Ac.dv) false)),(5,.r 0 (K1 10) 0 (b.Ar.l.length+1) false),(3,.p 1 0 0),(2,.p 2 0 0)],[some (.sl (K1 10) 0 (b.Ar.l.map Af.dv++[e.dv])),some (.box (K1 10) (.d e.dv)),some (.box (K1 22) (.d b.dv))]⟩) :
  Anx (λr=>r=(.d (.b true),false)) (kC T.env 0 fr H (.h (.loop [2,3,5,6,7] qkk,k))):=by
 have hm:=mxl
 have hnl:(qba e.Ad.l).length<=1000:=zzL (qAW e.Ad.l) (by have:=(qge hc).1;omega)
 have hlaw:=λi hi f=>@qJw b s e hc i hi f
 have hnz:=@qLc e.Ad.l
 have e715:=λacc=>qvQ T h.hU (b.Ar.l++[e]) false acc (by rw[zzp];simp;omega) (λx hx=>by
  rcases zzB.1 hx with hx|hx
  ·exact (hb.2.2.2.2.2.2.1.2 x hx).2.2.2.2.2.2.2.2.1.1
  ·rw[zzH.1 hx];exact he.2.2.2.2.2.2.2.2.1.1)
 simp only[qtW,List.map_append,zzu,List.map_nil]at e715;have e719:=λacc=>qDo T h.hU b acc e.AU hb
 have e716:=λacc=>qDn T h.hU b.Holds.l b.Holds.t acc e.AU hb.2.2.2.2.2.2.2.1.1
 have e720:=λacc=>qDp T h.hU b.Bc.l b.Bc.t acc e.AU hbl
 have e39:=λacc=>qvJ T h.hV h.hU b acc e.AU hb
 have e767:=λacc am=>qDq T h.hU h.hQ b.Bc.l b.Bc.t acc e.AU am hbl
 have t2:List.take (b.Ar.l.length+1) (b.Ar.l.map Af.dv++[e.dv])=b.Ar.l.map Af.dv++[e.dv]:=zzv (by simp)
 generalize qba e.Ad.l=nl at *
 refine qbV (λi:Nat=>⟨[(7,.d (I i)),(6,.d (.l (K1 3) (nl.map Ac.dv) false)),(5,.r 0 (K1 10) 0 (b.Ar.l.length+1) false),(3,.p 1 0 0),(2,.p 2 0 0)],[some (.sl (K1 10) 0 (b.Ar.l.map Af.dv++[e.dv])),some (.box (K1 10) (.d e.dv)),some (.box (K1 22) (.d b.dv))]⟩) (λi=>i<=nl.length) (λi=>nl.length-i) ?_ 0 (zzK _) h0
 rintro B-i hi hx;by_cases hlt:i<nl.length
 ·have h1:(i:Int)<nl.length:=by omega
  have h3:=wr1 (i:=i) (by omega)
  have hx':=hx (i+1) (by omega) (by omega)
  clear hx
  have hmem:=zzs hlt
  have hal:=hall _ hmem
  have hDi:=(hD _ hmem).2
  have hnz':=hnz _ hmem
  have hlaw':=hlaw i hlt
  obtain⟨y,hy⟩:∃y,nl[i]=y:=⟨_,rfl⟩;rw[hy]at hal hDi hnz' hlaw';by_cases ha:y.Ai<1000
  ·simp[qkk,h1,hlt,h3,hy,ha];exact hx' _ _ (by simp)
  by_cases hn:y.Amount<0
  ·simp[qkk,h1,hlt,h3,hy,ha,hn];exact hx' _ _ (by simp)
  have hp:0<y.Amount:=by omega
  obtain⟨f1,f2,f3,f4⟩:=qEF hDi (by omega) hp hal
  obtain⟨f,hf⟩:∃f,qeS b y.Ai e.AU=(f,0):=by
   refine⟨_,Prod.ext rfl ?_⟩;unfold qdg at f3;split at f3
   ·rename_i h;exact h
   ·exact f3
  have hlaw2:=hlaw' f hf f3 f4
  have k719:=e719 y.Ai
  have k716:=e716 y.Ai
  have k720:=e720 y.Ai
  have k715:=e715 y.Ai
  have k39:=e39 y.Ai
  have k767:=e767 y.Ai y.Amount
  rw[hf]at k719;rw[f1]at k39;rw[f2]at k767;clear hlaw hlaw' e719 e716 e720 e715 e39 e767 hall hD hal hDi f3 f4
  generalize qev b.Holds.l y.Ai e.AU=hv at *
  generalize qeB b.Bc.l y.Ai e.AU=rv at *
  generalize ofR (b.Ar.l++[e]) y.Ai=ov at *
  unfold w64 at hlaw2;generalize hrest:IntKind.i64.wrap (IntKind.i64.wrap (f+hv)+rv)=rest at *
  simp[qkk,h1,hlt,h3,hy,ha,hn,k719,k716,k720,hrest];refine qbV (λq:Nat×Int=>⟨[(12,.d (I q.1)),(11,.d (I q.2)),(10,.d (I rest)),(9,.d (I 0)),(7,.d (I i)),(6,.d (.l (K1 3) (nl.map Ac.dv) false)),(5,.r 0 (K1 10) 0 (b.Ar.l.length+1) false),(3,.p 1 0 0),(2,.p 2 0 0)],[some (.sl (K1 10) 0 (b.Ar.l.map Af.dv++[e.dv])),some (.box (K1 10) (.d e.dv)),some (.box (K1 22) (.d b.dv))]⟩) (λq=>q.1<=nl.length/\((q.2=y.Amount/\∀(k:Nat) (hk:k<nl.length),k<q.1->k≠i->nl[k].Ai≠y.Ai)\/q.2=0)) (λq=>nl.length-q.1) ?_ (0,y.Amount) ⟨zzK _,.inl ⟨rfl,λk _ h=>absurd h (zzm _)⟩⟩ (by simp)
  rintro B2-⟨k,v⟩ ⟨hk,hv2⟩ hy2;simp only at hk hv2⊢;by_cases hkl:k<nl.length
  ·have j1:(k:Int)<nl.length:=by omega
   have j3:IntKind.i64.wrap ((k:Int)+1)=(k:Int)+1:=wrI (by omega) (by omega)
   by_cases hki:k=i
   ·have hz:=hy2 (k+1,v) ⟨by simp only;omega,qBg hv2 (λh=>⟨h.1,λk' hk' hlt' hne=>h.2 k' hk' (by simp only at hlt';omega) hne⟩)⟩ (by simp only;omega)
    clear hy2
    subst hki;simp[qkj,j1,hkl,j3,bne];exact hz _ _ (by simp)
   ·have q1:¬(k:Int)=(i:Int):=by omega
    have q2:=qbA q1
    by_cases hac:nl[k].Ai=y.Ai
    ·have hz:=hy2 (k+1,0) ⟨by simp only;omega,.inr rfl⟩ (by simp only;omega)
     clear hy2
     simp[qkj,j1,hkl,j3,q1,q2,bne,hy,hlt,h1,hac];exact hz _ _ (by simp)
    ·have hz:=hy2 (k+1,v) ⟨by simp only;omega,qBg hv2 (λh=>⟨h.1,λk' hk' hlt' hne=>by
      by_cases hkk:k'=k
      ·subst hkk;exact hac
      ·exact h.2 k' hk' (by simp only at hlt';omega) hne⟩)⟩ (by simp only;omega)
     clear hy2
     have q3:=qbA hac
     simp[qkj,j1,hkl,j3,q1,q2,bne,hy,hlt,h1,hac,q3];exact hz _ _ (by simp)
  ·have j1:¬((k:Int)<nl.length):=by omega
   clear hy2
   rcases hv2 with ⟨rfl,hu⟩|rfl
   ·have hle:¬ov<rest:=by
     have:=hlaw2 (λk' hk' hne=>hu k' hk' (by omega) hne)
     omega
    simp[qkj,j1,hp,h1,hlt,hy,t2,k715,k39,k767,hle,h3,bne,qaK,pur,qaW,PV.AX,PV.AV,DV.AX,DV.AV,qpp];exact hx' _ _ (by simp)
   ·simp[qkj,j1,h1,hlt,hy,k39,k767,h3,bne];exact hx' _ _ (by simp)
 ·have:i=nl.length:=by omega
  subst this;have h1:¬((nl.length:Int)<nl.length):=by omega
  simp[qkk,h1];exact hk
def qJp(T:Tab)(h:HAll T)(hS:HS T)(hP:HP T)(hH:BF T)(hI2:HI2 T)(hG:HGd T)(hl:T.val 1091 []=some (.d (.b true),false))(b:Ap)(hb:b.ok)(ht:qaA Ap.ty b.cells)(e:Af)(he:e.ok):T.val 1089 [b.dv,e.dv]=some (.d (.b true),false):=by
 have hm:=mxl
 suffices hx:Anx (λr=>r=(.d (.b true),false)) (T.val 1089 [b.dv,e.dv])by
  obtain⟨r,h1,rfl⟩:=hx;exact h1
 obtain⟨_,e1093,c,own,rfl,hs⟩:=qPe T hS hH hP b hb (qE9 ht);have e111:=qRe T h.hN hP hI2 e he
 rw[qab T (hG 1089 qeE rfl) rfl];cases c with
 |false=>
  simp[qeE,Fr.Aa,e1093,hl];exact qag rfl
 |true=>
  have s:=hs rfl
  clear hs
  have hlen:=s.gr
  unfold few at hlen;have hbl:b.Bc.l.length<=100000:=by omega
  have hjl:b.Ar.l.length<=150:=by omega
  by_cases hc:qcc e=0
  ·by_cases h0:e.Auth=0
   ·obtain⟨D,hD⟩:=qi8 (P:=λ(x:Ac) (d:Int)=>T.val 768 [b.dv,I x.Ai,I e.AU,I x.Amount]=some (.d (I d),false)/\DG b e.AU x d) (l:=qba e.Ad.l) (λx _=>by
     obtain⟨n,e858⟩:=qSc T h b hb ((qcS b x.Ai e.AU).getD .zero) (qBx hb x.Ai e.AU).1 (qBx hb x.Ai e.AU).2 x.Ai e.AU x.Amount;exact⟨_,qR8 T h.hU h.hF b hb hbl x.Ai e.AU x.Amount n e858,n,rfl⟩)
    have e674:=qR4 T h.hU h.hV h.hF h.hQ h.hN h.hI b hb hbl e (by have:=(qge hc).1;omega) D (λx hx=>(hD x hx).1)
    rw[if_pos h0]at e674;by_cases hk:qbc (qfm b e.AU D) (qba e.Ad.l)=0
    ·have hall:=(qjl _ _).1 hk
     have e110:=qC2 T h.hN h.hI e.Ad.l e.Ad.t (by have:=(qge hc).1;omega)
     rw[hk]at e674;have lp:=λk fr H=>@qJM T h b hb e he s hc hbl hjl D hD hall k fr H
     generalize qba e.Ad.l=nl at *
     have b1:b.Ar.l.length*112<=140737488355328:=by omega
     have b2:(b.Ar.l.length+1)*112<=140737488355328:=by omega
     have t1:List.take b.Ar.l.length (b.Ar.l.map Af.dv)=b.Ar.l.map Af.dv:=zzv (by simp)
     have t2:List.take (b.Ar.l.length+1) (b.Ar.l.map Af.dv++[e.dv])=b.Ar.l.map Af.dv++[e.dv]:=zzv (by simp)
     by_cases hJ:b.Ar.l=[]
     ·rw[hJ]at lp;simp[qeE,Fr.Aa,e1093,e111,hc,h0,e674,e110,hJ,qhY,↓qxu,qpp];refine lp _ _ _ ?_ (by simp)
      simp[hl];exact qag rfl
     ·have hne:b.Ar.l.map Af.dv≠[]:=by simpa using hJ
      simp[qeE,Fr.Aa,e1093,e111,hc,h0,e674,e110,qiW hne,b1,b2,t1,t2,↓qxu,qpp];refine lp _ _ _ ?_ (by simp)
      simp[hl];exact qag rfl
    ·have gk:=qbA hk
     simp[qeE,Fr.Aa,e1093,e111,hc,h0,e674,hk,gk,bne,hl];exact qag rfl
   ·have g0:=qbA h0
    simp[qeE,Fr.Aa,e1093,e111,hc,h0,g0,bne,hl];exact qag rfl
  ·have gc:=qbA hc
   simp[qeE,Fr.Aa,e1093,e111,hc,gc,bne,hl];exact qag rfl
def qQ8{xs:Ct}{x:Ap}(e:DV.a xs=x.dv)(h:qaA Ap.ty xs):qaA Ap.ty x.cells:=by
 have:xs=x.cells:=DV.a.inj e
 rw[<-this];exact h
