/- Part 6 of the proof. -/
import Derived.Test.YtmaaepdecdhmnaaGreatDoorHB5
import Derived.OrdersIn
import Derived.LoopNIn
import Derived.Shelf.Strconv.Itoa3
set_option linter.all false
namespace Go.Sim
set_option maxRecDepth 100000
set_option maxHeartbeats 8000000
section
open Go.RowKit
def qcr(fr:Fr)(d:CE Nat)(v:PV):Fr:=match d with|some t=>fr.set t v|none=>fr
def gd(o:Ao)(fr:Fr):CE CG:=match o.g with
 |none=>some true
 |some (t,want)=>match fr.get t with
  |.d (.b b)=>some (b==want)
  |.t []=>some false
  |_=>none
def qvv{E:Env}{o:Ao}{id:Nat}{s s':St}(h:Bn E o id s=some s') :
  (gd o s.fr=some true/\∃v H',qal E (rd E s.fr) s.H id o.op=some (v,H')/\s'=⟨qcr s.fr o.dst v,H'⟩)\/(gd o s.fr=some false/\s'=⟨qcr s.fr o.dst (.t []),s.H⟩):=by
 have hgo:∀x,(match qal E (rd E s.fr) s.H id o.op with
   |some (v,H)=>some (⟨match o.dst with|some t=>s.fr.set t v|none=>s.fr,H⟩:St)
   |none=>none)=some x->∃v H',qal E (rd E s.fr) s.H id o.op=some (v,H')/\x=⟨qcr s.fr o.dst v,H'⟩:=by
  intro x hx;split at hx
  ·rename_i v H he;cases hx;exact⟨v,H,he,rfl⟩
  ·cases hx
 unfold Bn at h;unfold gd;simp only at h;split at h
 ·rename_i hg;rw[hg];exact .inl ⟨rfl,hgo _ h⟩
 ·rename_i t want hg;rw[hg];simp only;split at h
  ·rename_i b hb;simp only[hb];split at h
   ·rename_i hw;exact .inl ⟨by simp[hw],hgo _ h⟩
   ·rename_i hw;have:(b==want)=false:=by simpa using hw
    cases h;exact .inr ⟨by simp[this],rfl⟩
  ·rename_i hb;simp only[hb];cases h;exact .inr ⟨by simp,rfl⟩
  ·cases h
def qnn(fr:Fr)(d:CE Nat)(v:PV)(t:Nat):(qcr fr d v).get t=if d=some t then v else fr.get t:=by
 cases d with
 |none=>simp[qcr]
 |some d=>
  simp only[qcr,qdm,zzb];by_cases h:t=d
  ·subst h;simp
  ·rw[if_neg h,if_neg (λe=>h e.symm)]
def qAS:∀(L:CF Ao) (i:Nat) (h:i<L.length),qao (L.take (i+1))=qao (L.take i)+(if L[i].op.adds then 1 else 0)
 |[],i,h=>absurd h (zzm _)
 |o::L,0,_=>by simp[qao]
 |o::L,i+1,h=>by
  have:=qAS L i (by simpa using h)
  simp only[List.take_succ_cons,qao,zzG]at this⊢;rw[this];omega
def qtS(L:CF Ao):∀i,qao (L.take i)<=qao L:=by
 induction L with
 |nil=>intro i;simp[qao]
 |cons o L ih=>
  intro i;cases i with
  |zero=>simp[qao]
  |succ i=>simp only[List.take_succ_cons,qao];have:=ih i;omega
section
variable {α:Type}(w:Nat->Nat->CG)(v:Nat->Nat->α)(z:Nat->α)
def GF(S:Nat->CG):Nat->Nat->α
 |0,t=>z t
 |j+1,t=>if S j&&w j t then v j t else GF S j t
variable {w v z}
def qeH{S S':Nat->CG}{t:Nat}:∀{m:Nat},(∀j,j<m->w j t=true->S j=S' j)->GF w v z S m t=GF w v z S' m t
 |0,_=>rfl
 |m+1,h=>by
  simp only[GF];cases hw:w m t with
  |true=>rw[h m (Nat.lt_succ_self m) hw,qeH (λj hj=>h j (Nat.lt_succ_of_lt hj))]
  |false=>
   simp only[Bool.and_false,zzg,if_false];exact qeH (λj hj=>h j (Nat.lt_succ_of_lt hj))
def qq3{t i:Nat}:∀{m:Nat},i<=m->GF w v z (λj=>decide (j<i)) m t=GF w v z (λ_=>true) i t
 |0,h=>by
  have:i=0:=by omega
  subst this;rfl
 |m+1,h=>by
  by_cases hm:i=m+1
  ·subst hm;exact qeH (λj hj _=>by simpa using hj)
  ·simp only[GF];have:decide (m<i)=false:=by simp;omega
   simp only[this,Bool.false_and,zzg,if_false];exact qq3 (by omega)
def qq5{x:Nat->Nat->α}{n t:Nat}(h0:x 0 t=z t)(h1:∀i,i<n->w i t=true->v i t=x (i+1) t)(h2:∀i,i<n->w i t=false->x (i+1) t=x i t):∀i,i<=n->x i t=GF w v z (λ_=>true) i t
 |0,_=>h0
 |i+1,hi=>by
  simp only[GF,Bool.true_and];cases hw:w i t with
  |true=>rw[if_pos rfl,h1 i (by omega) hw]
  |false=>
   rw[h2 i (by omega) hw]
   simp only[zzg,if_false];exact qq5 h0 h1 h2 i (by omega)
def qq4{S:Nat->CG}{i t:Nat}:∀{m:Nat},i<m->S i=false->(∀j,i<j->j<m->w j t=true->w i t=true->S j=false)->
  GF w v z (λj=>S j||j==i) m t=if w i t then v i t else GF w v z S m t
 |0,h,_,_=>absurd h (zzm _)
 |m+1,h,hS,hlast=>by
  by_cases hm:i=m
  ·subst hm;simp only[GF,BEq.rfl,Bool.or_true,Bool.true_and];cases hw:w i t with
   |true=>rfl
   |false=>
    simp only[Bool.and_false,zzg,if_false];exact qeH (λj hj _=>by
     have:(j==i)=false:=by simp;omega
     simp[this])
  ·have hlt:i<m:=by omega
   have hmi:(m==i)=false:=by simp;omega
   have ih:=qq4 (S:=S) (t:=t) hlt hS (λj h1 h2 h3 h4=>hlast j h1 (by omega) h3 h4)
   simp only[GF,hmi,Bool.or_false];rw[ih];cases hw:w i t with
   |true=>
    rw[if_pos rfl,if_pos rfl];split
    ·rename_i hc;simp only[zzf]at hc
     have:=hlast m hlt (Nat.lt_succ_self m) hc.2 hw
     rw[this]at hc;simp at hc
    ·rfl
   |false=>simp
end
def qdv(H:CP)(o p:Nat)(x:CE Obj):(H.put p x).obj o=if o=p/\p<H.length then x else H.obj o:=by
 by_cases hp:o=p
 ·subst hp;by_cases hl:o<H.length
  ·rw[if_pos ⟨rfl,hl⟩,qc8 hl]
  ·rw[if_neg (λh=>hl h.2)]
   have e1:(H.put o x).length=H.length:=qaT _ _ _
   unfold Heap.obj;rw[List.getElem?_eq_none (by omega),List.getElem?_eq_none (by omega)]
 ·rw[if_neg (λh=>hp h.1),qa0 (λh=>hp h.symm)]
def qGI{os:Cy}{o:Nat}(h:o∉os)(x:CE Obj):qgu os o x=x:=by
 unfold qgu;split
 ·rw[if_neg (by simpa using h)]
 ·rfl
def qvw{ρ:Ab->PV}{x:IOp}{o:Nat}(h:o∈qa8 ρ x):o∈qaE ρ x:=by
 cases x<;>simp_all[qa8,qaE]
section
variable {ρ:Ab->PV}{x:IOp}{id:Nat}{F:CP->CP}{H H2:CP}{o:Nat}
def qyl(hF:qiM ρ x id F)(H:CP):(F H).length=H.length:=by
 obtain⟨os,-,rfl|⟨y,-,rfl⟩|⟨p,y,-,-,rfl⟩|⟨p,y,-,-,rfl⟩⟩:=hF<;>simp[qaT,qc5]
def qym(hF:qiM ρ x id F)(h1:o∉qaE ρ x)(h2:¬(x.adds=true/\o=id)):(F H).obj o=H.obj o:=by
 obtain⟨os,h0,h⟩:=hF;have hf:(frz H os).obj o=H.obj o:=by rw[qdC];exact qGI (λh=>h1 (h0 o h)) _
 rcases h with rfl|⟨y,ha,rfl⟩|⟨p,y,-,hp,rfl⟩|⟨p,y,hp,ha,rfl⟩
 ·exact hf
 ·simp only[qdv];rw[if_neg (λh=>h2 ⟨ha,h.1⟩)];exact hf
 ·simp only[qdv];rw[if_neg (λ(h:o=p/\_)=>h1 (h.1▸qvw hp))];exact hf
 ·simp only[qdv];rw[if_neg (λh=>h2 ⟨ha,h.1⟩),if_neg (λ(h:o=p/\_)=>h1 (h.1▸qvw hp))]
def qyk(hF:qiM ρ x id F)(hT:∀o∈qaE ρ x,H2.obj o=H.obj o)(hid:x.adds=true->H2.obj id=H.obj id)(hl:H2.length=H.length)(h1:o∈qaE ρ x\/(x.adds=true/\o=id)):(F H2).obj o=(F H).obj o:=by
 obtain⟨os,h0,h⟩:=hF;have ho:H2.obj o=H.obj o:=by
  rcases h1 with h1|⟨h1,rfl⟩
  ·exact hT o h1
  ·exact hid h1
 have hf:(frz H2 os).obj o=(frz H os).obj o:=by rw[qdC,qdC,ho]
 rcases h with rfl|⟨y,ha,rfl⟩|⟨p,y,-,hp,rfl⟩|⟨p,y,hp,ha,rfl⟩
 ·exact hf
 ·simp only[qdv,qc5,hl];rw[hf]
 ·simp only[qdv,qc5,hl];rw[hf]
 ·simp only[qdv,qaT,hl];rw[ho]
def qGD(hF:qiM ρ x id F)(h1:o∉qa8 ρ x)(h2:¬(x.adds=true/\o=id))(hr:qbj (H.obj o)=qbj ((F H).obj o)):(F H).obj o=H.obj o:=by
 obtain⟨os,h0,h⟩:=hF;have hf:(F H).obj o=qgu os o (H.obj o)\/(F H).obj o=H.obj o:=by
  rw[<-qdC];rcases h with rfl|⟨y,ha,rfl⟩|⟨p,y,-,hp,rfl⟩|⟨p,y,hp,ha,rfl⟩
  ·exact .inl rfl
  ·simp only[qdv];rw[if_neg (λh=>h2 ⟨ha,h.1⟩)];exact .inl rfl
  ·simp only[qdv];rw[if_neg (λ(h:o=p/\_)=>h1 (h.1▸hp))];exact .inl rfl
  ·simp only[qdv];rw[if_neg (λh=>h2 ⟨ha,h.1⟩),if_neg (λ(h:o=p/\_)=>h1 (h.1▸hp))];exact .inr rfl
 rcases hf with hf|hf
 case inr=>exact hf
 rw[hf]at hr⊢;cases ho:H.obj o with
 |none=>rfl
 |some x=>
  cases x with
  |sl k ro es=>
   rw[ho]at hr;simp only[qgu,qbj]at hr⊢;rw[<-hr]
  |_=>rfl
end
def qr0{H H':CP}{o:Nat}:∀{l:Cy},o∈l->o∉chg H H' l->qbj (H.obj o)=qbj (H'.obj o)
 |[],h,_=>absurd h (zzC)
 |p::r,h,hn=>by
  simp only[chg]at hn;split at hn
  ·rename_i hb;rcases List.mem_cons.1 h with rfl|h
   ·exact zzy hb
   ·exact qr0 h hn
  ·rcases List.mem_cons.1 h with rfl|h
   ·exact absurd (zzr ..) hn
   ·exact qr0 h (λhm=>hn (zzi _ hm))
def qr1{H H':CP}{o:Nat}:∀{l:Cy},o∈chg H H' l->o∈l
 |[],h=>by cases h
 |p::r,h=>by
  simp only[chg]at h;split at h
  ·exact zzi _ (qr1 h)
  ·rcases List.mem_cons.1 h with rfl|h
   ·exact zzr ..
   ·exact zzi _ (qr1 h)
def qkQ{o:Ao}{fr:Fr}{b:CG}(h:gd o fr=some b):runs o fr=b:=by
 unfold gd at h;unfold runs;cases hg:o.g with
 |none=>rw[hg]at h;simpa using h
 |some p=>
  obtain⟨t,want⟩:=p;rw[hg]at h;simp only at h⊢;split at h
  ·rename_i hb;rw[hb];simpa using h
  ·rename_i hb;rw[hb];simpa using h
  ·cases h
def qxF{a b:Cy}(h:qbg a b=true){o:Nat}(ha:o∈a):o∉b:=by
 have:=List.all_eq_true.1 h o ha
 simpa using this
def WW(E:Env)(L:CF Ao)(id:Nat)(st:Nat->St)(k:Nat):Cy:=AA E (L.getD k default) (id+qao (L.take k)) (st k) (st (k+1))
def TT(E:Env)(L:CF Ao)(id:Nat)(st:Nat->St)(k:Nat):Cy:=WW E L id st k++AP E (L.getD k default) (st k)
def qBo{b:Nat}{t w:Cy}:∀{l:CF (Cy×Cy)} {k:Nat},qa6 b k l t w=true->∀i (h:i<l.length),(qbg l[i].2 t=true/\qbg w l[i].1=true)\/b.testBit (k+i)=true
 |[],k,_,i,h=>absurd h (zzm _)
 |x::r,k,hp,i,h=>by
  simp only[qa6,zzf,Bool.or_eq_true]at hp;cases i with
  |zero=>exact hp.1.symm
  |succ i=>
   have:=qBo hp.2 i (by simpa using h)
   rw[show k+(i+1)=k+1+i by omega]
   exact this
def qCV{E:Env}:∀(L:CF Ao) (bf:Cy) (acc:CF (Cy×Cy)) (id:Nat) (s s':St),qbu E L bf acc id s=some s'->∃st:Nat->St,st 0=s/\st L.length=s'/\(∀i (h:i<L.length),Bn E L[i] (id+qao (L.take i)) (st i)=some (st (i+1)))/\
  ∀j,j<L.length->qa6 (bf.getD j 0) 0 (acc++(List.range j).map λk=>(TT E L id st k,WW E L id st k)) (TT E L id st j) (WW E L id st j)=true
 |[],bf,acc,id,s,s',h=>by cases h;exact⟨λ_=>s,rfl,rfl,λi h=>absurd h (zzm _),λi h=>absurd h (zzm _)⟩
 |o::L,bf,acc,id,s,s',h=>by
  simp only[qbu]at h;split at h
  ·rename_i s1 h1;split at h
   ·rename_i hp;obtain⟨st,q1,q2,q3,q4⟩:=qCV L _ _ _ s1 s' h;let st':Nat->St:=λi=>match i with|0=>s|i+1=>st i
    have e:∀i,id+qao (o::L.take i)=(if o.op.adds then id+1 else id)+qao (L.take i):=λi=>by
     simp only[qao];split<;>omega
    have hW0:WW E (o::L) id st' 0=AA E o id s s1:=by
     show AA E o (id+qao []) s (st 0)=_
     rw[q1];rfl
    have hT0:TT E (o::L) id st' 0=AA E o id s s1++AP E o s:=by
     unfold TT;rw[hW0];rfl
    have hWs:∀k,WW E (o::L) id st' (k+1)=WW E L (if o.op.adds then id+1 else id) st k:=λk=>by
     show AA E (L.getD k default) (id+qao (o::L.take k)) (st k) (st (k+1))=_
     rw[e];rfl
    have hTs:∀k,TT E (o::L) id st' (k+1)=TT E L (if o.op.adds then id+1 else id) st k:=λk=>by
     unfold TT;rw[hWs];rfl
    refine⟨st',rfl,q2,?_,?_⟩
    ·intro i hi;cases i with
     |zero=>simpa[qao,q1,st']using h1
     |succ i=>
      have:=q3 i (by simpa using hi)
      simp only[zzG,List.take_succ_cons];rw[e];exact this
    ·intro j hj;cases j with
     |zero=>
      rw[hT0,hW0];simpa[List.headD_eq_head?_getD,List.getD,List.head?_eq_getElem?]using hp
     |succ j=>
      have:=q4 j (by simpa using hj)
      rw[hTs,hWs,List.range_succ_eq_map,zzu,List.map_map];have e2:(List.range j).map ((λk=>(TT E (o::L) id st' k,WW E (o::L) id st' k))∘Nat.succ)=(List.range j).map λk=>(TT E L (if o.op.adds then id+1 else id) st k,WW E L (if o.op.adds then id+1 else id) st k):=by
       apply List.map_congr_left
       intro k _;show (TT E (o::L) id st' (k+1),WW E (o::L) id st' (k+1))=_
       rw[hTs,hWs]
      rw[e2,hT0,hW0];have e3:bf.getD (j+1) 0=bf.tail.getD j 0:=by cases bf<;>rfl
      rw[e3];simpa[zzM]using this
   ·cases h
  ·cases h
section
variable (L:CF Ao)(st:Nat->St)(id0:Nat)
def qbF(i:Nat):Nat:=id0+qao (L.take i)
variable {L st id0}{E:Env}
def qqN(htr:∀i (h:i<L.length),Bn E L[i] (id0+qao (L.take i)) (st i)=some (st (i+1))){i:Nat}(hi:i<L.length):(st (i+1)).H.length=(st i).H.length/\∀o,o∉WW E L id0 st i->(st (i+1)).H.obj o=(st i).H.obj o:=by
 have hg:L.getD i default=L[i]:=by simp[List.getD,zze hi]
 have hs:=htr i hi
 rcases qvv hs with ⟨hgd,v,H',he,h⟩|⟨hgd,h⟩
 ·cases hk:L[i].op.okD (rd E (st i).fr)with
  |false=>
   obtain⟨-,hl⟩:=qwR hk he;have hH:(st (i+1)).H=H':=by rw[h]
   refine⟨by rw[hH];exact hl,λo ho=>?_⟩
   unfold WW AA at ho;rw[hg,qkQ hgd]at ho;simp only[if_true,hk,zzg,if_false,zzB,not_or]at ho;by_cases hm:o<(st i).H.length
   ·exact (qrZ (List.mem_range.2 hm) ho.2).symm
   ·rw[qA6 (show (st (i+1)).H.length<=o by rw[hH,hl];omega),qA6 (show (st i).H.length<=o by omega)]
  |true=>
  obtain⟨F,hF,rfl,-⟩:=qBb hk he;have hH:(st (i+1)).H=F (st i).H:=by rw[h]
  refine⟨by rw[hH];exact qyl hF _,λo ho=>?_⟩
  unfold WW AA at ho;rw[hg,qkQ hgd]at ho;simp only[if_true,hk,zzB,not_or]at ho;obtain⟨h1,h2,h3⟩:=ho;have h1':¬(L[i].op.adds=true/\o=id0+qao (L.take i)):=by
   rintro⟨a,b⟩;rw[if_pos a]at h1;exact h1 (by rw[b];exact zzH.2 rfl)
  rw[hH]at h3⊢;by_cases hm:o∈qaE (rd E (st i).fr) L[i].op
  ·exact qGD hF h2 h1' (qr0 hm h3)
  ·exact qym hF hm h1'
 ·have hH:(st (i+1)).H=(st i).H:=by rw[h]
  rw[hH];exact⟨rfl,λ_ _=>rfl⟩
def qCW(htr:∀i (h:i<L.length),Bn E L[i] (id0+qao (L.take i)) (st i)=some (st (i+1))):∀i,i<=L.length->(st i).H.length=(st 0).H.length
 |0,_=>rfl
 |i+1,hi=>((qqN htr (show i<L.length by omega)).1).trans (qCW htr i (by omega))
def wF(L:CF Ao)(j t:Nat):CG:=(L.getD j default).dst==some t
def qQH(htr:∀i (h:i<L.length),Bn E L[i] (id0+qao (L.take i)) (st i)=some (st (i+1))){i:Nat}(hi:i<L.length){t:Nat}(h:wF L i t=false):(st (i+1)).fr.get t=(st i).fr.get t:=by
 have hg:L.getD i default=L[i]:=by simp[List.getD,zze hi]
 have hd:L[i].dst≠some t:=by
  unfold wF at h;rw[hg]at h;simpa using h
 rcases qvv (htr i hi)with ⟨-,v,H',-,h⟩|⟨-,h⟩<;>rw[h,qnn,if_neg hd]
def TF(L:CF Ao)(st:Nat->St)(S:Nat->CG)(m t:Nat):PV:=GF (wF L) (λj t=>(st (j+1)).fr.get t) (λt=>(st 0).fr.get t) S m t
def HF(E:Env)(L:CF Ao)(id0:Nat)(st:Nat->St)(S:Nat->CG)(m o:Nat):CE Obj:=GF (λj o=>(WW E L id0 st j).contains o) (λj o=>(st (j+1)).H.obj o) (λo=>(st 0).H.obj o) S m o
def qwl(htr:∀i (h:i<L.length),Bn E L[i] (id0+qao (L.take i)) (st i)=some (st (i+1)))(t i:Nat)(hi:i<=L.length):(st i).fr.get t=TF L st (λ_=>true) i t:=
 qq5 (x:=λi t=>(st i).fr.get t) (n:=L.length) rfl (λ_ _ _=>rfl) (λ_i hi hw=>qQH htr hi hw) i hi
def qwc(htr:∀i (h:i<L.length),Bn E L[i] (id0+qao (L.take i)) (st i)=some (st (i+1)))(o i:Nat)(hi:i<=L.length):(st i).H.obj o=HF E L id0 st (λ_=>true) i o:=
 qq5 (x:=λi o=>(st i).H.obj o) (n:=L.length) rfl (λ_ _ _=>rfl) (λi hi hw=>(qqN htr hi).2 o (by simpa using hw)) i hi
end
def qsa{p p':Nat->CG}{i:Nat}:∀{l:Cy},(∀j∈l,p' j=true->p j=true)->i∈l->p i=true->p' i=false->l.countP p'<l.countP p
 |[],_,h,_,_=>(zzC h).elim
 |x::l,hle,hi,h1,h2=>by
  simp only[List.countP_cons];have hm:l.countP p'<=l.countP p:=List.countP_mono_left (λj hj=>hle j (zzi _ hj))
  rcases List.mem_cons.1 hi with rfl|hi
  ·rw[h1,h2];simp;omega
  ·have:=qsa (λj hj=>hle j (zzi _ hj)) hi h1 h2
   have hx:=hle x (zzr ..)
   cases hp:p' x with
   |true=>rw[hx hp];simp;omega
   |false=>cases p x<;>simp<;>omega
def qoU{x y:Ao}(h:qmU x y=true):(∀d,x.dst=some d->d∉y.uses/\y.dst≠some d)/\(∀d,y.dst=some d->d∉x.uses):=by
 unfold qmU at h;simp only[zzf]at h;obtain⟨h1,h2⟩:=h;refine⟨?_,?_⟩
 ·intro d hd;rw[hd]at h1;simpa using h1
 ·intro d hd;rw[hd]at h2;simpa using h2
def qpE{L:CF Ao}{id0 i k:Nat}(hi:i<L.length)(ha:(L.getD i default).op.adds=true)(hk:i<k):qbF L id0 i<qbF L id0 k:=by
 have hg:L.getD i default=L[i]:=by simp[List.getD,zze hi]
 rw[hg]at ha;have h1:=qAS L i hi
 rw[if_pos ha]at h1;have h2:qao (L.take (i+1))<=qao (L.take k):=by
  have:L.take (i+1)=(L.take k).take (i+1):=by rw[List.take_take,Nat.min_eq_left hk]
  rw[this];exact qtS _ _
 unfold qbF;omega
section
variable {P:CO}{N:Names}{C:Cx}{B base nt:Nat}{E:Env}{ro:CE Nat}{nf:Nat}
def qvU{ops:Array Oper}{o:Oper}{fr:Fr}{w:CL}{S:qac}{β:Pl}{a:Act}(hf:FOK C w S β fr a){x:IOp}{g:CE (Nat×CG)}(hg:qek ops o.guard=some g){b:CG}(h:gd ⟨o.dst,x,g⟩ fr=some b) :
  Region.wanted o (yielded ops a.tmps)=b:=by
 cases hgo:o.guard with
 |none=>
  rw[hgo]at hg;simp only[qek,zzb]at hg;subst hg;simp only[gd,zzb]at h;simp[Region.wanted,hgo,h]
 |some gw=>
  obtain⟨j,want⟩:=gw;rw[hgo]at hg;simp only[qek]at hg;obtain⟨t,ht,hg⟩:=zza.1 hg;cases hg;simp only[gd]at h;have hyt:=hf t
  have hy:yielded ops a.tmps j=match a.tmps[t]? with|some (.bool b)=>some b|_=>none:=by
   unfold yielded;rw[ht];rfl
  split at h
  ·rename_i b' hb;rw[hb]at hyt
   have:=qi5 hyt
   have hyb:yielded ops a.tmps j=some b':=by
    rw[hy];rw[zzx]at this;cases hq:a.tmps[t]? with
    |none=>rw[hq]at this;cases this
    |some z=>rw[hq]at this;simp at this;subst this;rfl
   simp only[zzb]at h;rw[<-h];simp only[Region.wanted,hgo,hyb];cases b'<;>cases want<;>rfl
  ·rename_i hb;rw[hb]at hyt;have hyb:yielded ops a.tmps j=none:=by
    rw[hy];rw[zzx]at hyt;cases hq:a.tmps[t]? with
    |none=>rfl
    |some z=>
     rw[hq]at hyt;simp only[zzA]at hyt;cases hyt;rfl
   simp only[zzb]at h;rw[<-h];simp only[Region.wanted,hgo,hyb];rfl
  ·cases h
def qys{o:Ao}{fr fr':Fr}(h:∀t∈o.uses,fr.get t=fr'.get t):gd o fr=gd o fr':=by
 unfold gd;cases hg:o.g with
 |none=>rfl
 |some p=>
  obtain⟨t,want⟩:=p;simp only;rw[h t (by simp[Ao.uses,hg])]
def qF9(hO:OrOK P C N E)(hN:NOK P N C E.G)(hng:nt<=gh){ops:Array Oper}(hnof:∀o∈ops.toList,qbG o.op=false){L:CF Ao}(hL:L=ops.toList.map (qaq P N ops)){st:Nat->St}{id0:Nat}{Q:Exit->Act->CL->Prop}(hdst:∀o∈ops.toList,∀d,o.dst=some d->d<nt)
  (hok:qje ops.toList L=true) (htr:∀i (h:i<L.length),Bn E L[i] (id0+qao (L.take i)) (st i)=some (st (i+1)))
  (hpd:∀j,j<L.length->qa6 ((bef ops.toList []).getD j 0) 0 ((List.range j).map λk=>(TT E L id0 st k,WW E L id0 st k)) (TT E L id0 st j) (WW E L id0 st j)=true) (hR:id0+qao L<=(st 0).H.length) (hbase:base<=id0)
  {w0:CL} {S0:qac} {β0:Pl} (hQ:∀a' w' S' β',Inv P N C E B base nt (st L.length) a' w' S' β'->Ext B w0 S0 w' S'->Lb base β0 β'->Q .normal a' w') :
  ∀(fuel:Nat) (listed:Array CG) (a:Act) (w:CL) (S:qac) (β:Pl) (fr:Fr) (Hc:CP),listed.size=L.length->(∀j (h:j<ops.toList.length),listed.getD j false=true->∀e∈ops.toList[j].after.toList,Region.binds .any e=true->listed.getD e.on false=true)->
   (List.range L.length).countP (λj=>!listed.getD j false)<=fuel->Inv P N C E B base nt ⟨fr,Hc⟩ a w S β->(∀t,fr.get t=TF L st (λj=>listed.getD j false) L.length t)->(∀o,Hc.obj o=HF E L id0 st (λj=>listed.getD j false) L.length o)->Hc.length=(st 0).H.length->
   (∀k,k<L.length->(L.getD k default).op.adds=true->listed.getD k false=false->β (qbF L id0 k)=.pend)->
   Ext B w0 S0 w S->Lb base β0 β->wpAnyIn (FR ro) nf P .any ops Q fuel listed a w:=by
 have hlen:L.length=ops.size:=by rw[hL];simp
 have hgetL:∀i (h:i<L.length),L.getD i default=L[i]:=λi h=>by simp[List.getD,zze h]
 have hchk:∀j,j<L.length->(∀e∈(ops.toList.getD j default).after.toList,Region.binds .any e=true->e.on<j)/\∀i,i<j->((bef ops.toList []).getD j 0).testBit i=true\/qmU (L.getD i default) (L.getD j default)=true:=by
  intro j hj;simp only[qje,List.all_eq_true,List.mem_range,zzf,Bool.or_eq_true,Bool.not_eq_true',zzq,Array.length_toList]at hok;obtain⟨h1,h2⟩:=hok j (by omega)
  refine⟨λe he hb=>(h1 e he).resolve_left (by simp[hb]),h2⟩
 have hchk2:∀j,j<L.length->∀i,i<j->((bef ops.toList []).getD j 0).testBit i=true\/((∀o,o∈WW E L id0 st i->o∉TT E L id0 st j)/\∀o,o∈WW E L id0 st j->o∉TT E L id0 st i):=by
  intro j hj i hi
  have:=qBo (hpd j hj) i (by simpa using hi)
  simp only[List.getElem_map,List.getElem_range,Nat.zero_add]at this;rcases this with ⟨h1,h2⟩|h
  ·exact .inr ⟨λo ho=>qxF h1 ho,λo ho=>qxF h2 ho⟩
  ·exact .inl h
 have hWT:∀i o,o∈WW E L id0 st i->o∈TT E L id0 st i:=λi o h=>zzB.2 (.inl h)
 have hopsget:∀j (h:j<ops.toList.length),ops.toList.getD j default=ops.toList[j]:=λj h=>by simp[List.getD,zze h]
 have hheap:=λi hi=>qCW htr i hi
 have done:∀(listed:Array CG) (a:Act) (w:CL) (S:qac) (β:Pl) (fr:Fr) (Hc:CP),(∀j,j<L.length->listed.getD j false=true)->Inv P N C E B base nt ⟨fr,Hc⟩ a w S β->(∀t,fr.get t=TF L st (λj=>listed.getD j false) L.length t)->(∀o,Hc.obj o=HF E L id0 st (λj=>listed.getD j false) L.length o)->Hc.length=(st 0).H.length->
   Ext B w0 S0 w S->Lb base β0 β->Q .normal a w:=by
  intro listed a w S β fr Hc hall hI hfr hHc hHl he hlb;refine hQ a w S β ?_ he hlb;have hend:∀o,Hc.obj o=(st L.length).H.obj o:=by
   intro o;rw[hHc o,qwc htr o L.length (zzt _)];exact qeH (λj hj _=>hall j hj)
  have hlenE:(st L.length).H.length=Hc.length:=by rw[hHl];exact hheap L.length (zzt _)
  have eqf:∀t,(st L.length).fr.get t=fr.get t:=by
   intro t;rw[qwl htr t L.length (zzt _),hfr t];exact qeH (λj hj _=>(hall j hj).symm)
  refine⟨hI.swf,hI.gok,hI.hB,⟨?_,?_,?_,hI.hok.inj,?_,?_,hI.hok.spi⟩,?_,hI.size,hI.defers.frame (λt _=>eqf t),hI.yok,by rw[hlenE];exact hI.base⟩
  ·intro o blk b k h;rw[<-hend];exact hI.hok.live o blk b k h
  ·intro o h;rw[<-hend];exact hI.hok.dead o h
  ·intro o h;rw[<-hend];exact hI.hok.Bq o h
  ·intro o h;rw[hlenE]at h;exact hI.hok.out o h
  ·intro o blk x h;rw[<-hend];exact hI.hok.sp o blk x h
  ·intro t;rw[eqf];exact hI.fok t
 intro fuel;induction fuel with
 |zero=>
  intro listed a w S β fr Hc hsz hcl hcnt hI hfr hHc hHl hpend he hlb;have hall:∀j,j<L.length->listed.getD j false=true:=by
   intro j hj;have h0:(List.range L.length).countP (λj=>!listed.getD j false)=0:=by omega
   rw[List.countP_eq_zero]at h0
   have:=h0 j (List.mem_range.2 hj)
   simpa using this
  refine⟨?_,done listed a w S β fr Hc hall hI hfr hHc hHl he hlb⟩;rw[List.eq_nil_iff_forall_not_mem];intro j hj;rw[mem_ready]at hj;obtain⟨h1,o,ho,-⟩:=hj;have hj':j<L.length:=by rw[hlen];exact (Array.getElem?_eq_some_iff.1 ho).1
  have h2:=hall j hj'
  have:listed.getD j true=listed.getD j false:=by
   simp[zzx,Array.getElem?_eq_getElem (show j<listed.size by omega)]
  rw[this,h2]at h1;cases h1
 |succ fuel ih=>
  intro listed a w S β fr Hc hsz hcl hcnt hI hfr hHc hHl hpend he hlb;have hgd:∀j,j<L.length->listed.getD j true=listed.getD j false:=λj hj=>by
   simp[zzx,Array.getElem?_eq_getElem (show j<listed.size by omega)]
  refine⟨?_,?_⟩
  ·intro hnil;refine done listed a w S β fr Hc ?_ hI hfr hHc hHl he hlb;intro j;induction j using Nat.strongRecOn with
   |ind j ihj=>
    intro hj;cases hl:listed.getD j false with
    |true=>rfl
    |false=>
     exfalso
     have hjo:j<ops.size:=by omega
     have:j∈Region.ready .any ops listed:=by
      rw[mem_ready];refine⟨by rw[hgd j hj];exact hl,ops[j],by simp[hjo],?_⟩
      intro e hem hb;have hlt:=(hchk j hj).1 e (by rw[hopsget j (by simpa using hjo)];simpa using hem) hb
      exact ihj e.on hlt (by omega)
     rw[hnil]at this;exact zzC this
  ·intro i hi;rw[mem_ready]at hi;obtain⟨hun,o,ho,hpre⟩:=hi;have hio:i<ops.size:=(Array.getElem?_eq_some_iff.1 ho).1
   have hiL:i<L.length:=by omega
   have hoi:ops.toList[i]'(by simpa using hio)=o:=by
    have:=(Array.getElem?_eq_some_iff.1 ho).2
    simpa using this
   rw[hgd i hiL]at hun;have hbefi:∀k,((bef ops.toList []).getD i 0).testBit k=true->listed.getD k false=true:=
    qrP (S:=λk=>listed.getD k false=true) hcl i (by simpa using hio) (λe hem hb=>hpre e (by rw[hoi]at hem;simpa using hem) hb)
   have hafter:∀j,j<L.length->((bef ops.toList []).getD j 0).testBit i=true->listed.getD j false=false:=by
    intro j hj hb;cases hl:listed.getD j false with
    |false=>rfl
    |true=>
     have:=qrP (S:=λk=>listed.getD k false=true) hcl j (by simp;omega) (λe hem hb'=>hcl j (by simp;omega) hl e hem hb') i hb
     rw[hun]at this;cases this
   have hgi:=hgetL i hiL
   have huse:∀t∈(L.getD i default).uses,fr.get t=(st i).fr.get t:=by
    intro t ht;rw[hfr t,qwl htr t i (by omega)]
    refine Eq.trans ?_ (qq3 (show i<=L.length by omega))
    refine qeH ?_;intro j hj hd;have hd:(L.getD j default).dst=some t:=by simpa[wF]using hd
    rcases Nat.lt_trichotomy j i with h1|h1|h1
    ·have:listed.getD j false=true:=by
      rcases (hchk i hiL).2 j h1 with hb|hap
      ·exact hbefi j hb
      ·exact absurd ht ((qoU hap).1 t hd).1
     rw[this];simp[h1]
    ·subst h1;rw[hun];simp
    ·have:listed.getD j false=false:=by
      rcases (hchk j hj).2 i h1 with hb|hap
      ·exact hafter j hj hb
      ·exact absurd ht ((qoU hap).2 t hd)
     rw[this];simp;omega
   have hobj:∀o'∈TT E L id0 st i,Hc.obj o'=(st i).H.obj o':=by
    intro o' ho';rw[hHc o',qwc htr o' i (by omega)]
    refine Eq.trans ?_ (qq3 (show i<=L.length by omega))
    refine qeH ?_;intro j hj hd;have hd:o'∈WW E L id0 st j:=by simpa using hd
    rcases Nat.lt_trichotomy j i with h1|h1|h1
    ·have:listed.getD j false=true:=by
      rcases hchk2 i hiL j h1 with hb|hap
      ·exact hbefi j hb
      ·exact absurd ho' (hap.1 o' hd)
     rw[this];simp[h1]
    ·subst h1;rw[hun];simp
    ·have:listed.getD j false=false:=by
      rcases hchk2 j hj i h1 with hb|hap
      ·exact hafter j hj hb
      ·exact absurd ho' (hap.2 o' hd)
     rw[this];simp;omega
   have hset:∀j,(listed.setIfInBounds i true).getD j false=(listed.getD j false||j==i):=by
    intro j;by_cases hji:j=i
    ·subst hji;simp[zzx,show j<listed.size by omega]
    ·rw[getD_set_ne false (λe=>hji e.symm)]
     simp[hji]
   have hsz':(listed.setIfInBounds i true).size=L.length:=by simp[hsz]
   have hcl':∀j (h:j<ops.toList.length),(listed.setIfInBounds i true).getD j false=true->∀e∈ops.toList[j].after.toList,Region.binds .any e=true->(listed.setIfInBounds i true).getD e.on false=true:=by
    intro j hj hl e hem hb;rw[hset]at hl;rw[hset];by_cases hji:j=i
    ·subst hji;rw[hpre e (by rw[hoi]at hem;simpa using hem) hb];rfl
    ·have:listed.getD j false=true:=by simpa[hji]using hl
     rw[hcl j hj this e hem hb];rfl
   have hcnt':(List.range L.length).countP (λj=>!(listed.setIfInBounds i true).getD j false)<=fuel:=by
    have:=qsa (p:=λj=>!listed.getD j false) (p':=λj=>!(listed.setIfInBounds i true).getD j false) (i:=i) (l:=List.range L.length) (λj _ h=>by
     simp only[hset]at h;simp only[Bool.not_eq_true',zzD]at h⊢;exact h.1) (List.mem_range.2 hiL) (by simp only[hun];rfl) (by simp only[hset];simp)
    omega
   have hfr2:∀v H',st (i+1)=⟨qcr (st i).fr (L.getD i default).dst v,H'⟩->∀t,(qcr fr (L.getD i default).dst v).get t=TF L st (λj=>(listed.setIfInBounds i true).getD j false) L.length t:=by
    intro v H' hs t;have e1:TF L st (λj=>(listed.setIfInBounds i true).getD j false) L.length t=TF L st (λj=>listed.getD j false||j==i) L.length t:=qeH (λj _ _=>hset j)
    rw[e1];unfold TF;rw[qq4 hiL hun,qnn]
    ·cases hw:wF L i t with
     |true=>
      have hd:(L.getD i default).dst=some t:=by simpa[wF]using hw
      rw[if_pos hd,if_pos rfl,hs,hd];simp only[qnn,if_true]
     |false=>
      have hd:(L.getD i default).dst≠some t:=by simpa[wF]using hw
      rw[if_neg hd];simp only[zzg,if_false];exact hfr t
    ·intro j h1 h2 h3 h4;have h3:(L.getD j default).dst=some t:=by simpa[wF]using h3
     have h4:(L.getD i default).dst=some t:=by simpa[wF]using h4
     rcases (hchk j h2).2 i h1 with hb|hap
     ·exact hafter j h2 hb
     ·exact absurd h3 ((qoU hap).1 t h4).2
   have hH2:∀Hn:CP,(∀o',o'∈WW E L id0 st i->Hn.obj o'=(st (i+1)).H.obj o')->(∀o',o'∉WW E L id0 st i->Hn.obj o'=Hc.obj o')->∀o',Hn.obj o'=HF E L id0 st (λj=>(listed.setIfInBounds i true).getD j false) L.length o':=by
    intro Hn hin hout o';have e1:HF E L id0 st (λj=>(listed.setIfInBounds i true).getD j false) L.length o'=HF E L id0 st (λj=>listed.getD j false||j==i) L.length o':=qeH (λj _ _=>hset j)
    rw[e1];unfold HF;rw[qq4 hiL hun]
    ·by_cases hm:o'∈WW E L id0 st i
     ·rw[if_pos (by simpa using hm),hin o' hm]
     ·rw[if_neg (by simpa using hm),hout o' hm]
      exact hHc o'
    ·intro j h1 h2 h3 h4;have h3:o'∈WW E L id0 st j:=by simpa using h3
     have h4:o'∈WW E L id0 st i:=by simpa using h4
     rcases hchk2 j h2 i h1 with hb|hap
     ·exact hafter j h2 hb
     ·exact absurd (hWT j o' h3) (hap.1 o' h4)
   have hstep:=htr i hiL
   rw[<-hgi]at hstep;have hdf:qbG o.op=false:=hnof o (by rw[<-hoi];simp)
   have hnd:∀c,o.op≠.defer c:=λc h=>by rw[h]at hdf;cases hdf
   obtain⟨yb,hyb,hyok⟩:=hI.yok;have hdo:(L.getD i default).dst=o.dst:=by
    rw[hgi];simp only[hL,List.getElem_map,hoi];exact qsi _ _ hdf
   have hdig:(∃x g,qaO P N o=some x/\qek ops o.guard=some g/\L.getD i default=⟨o.dst,x,g⟩)\/L.getD i default=⟨o.dst,.bad,none⟩:=by
    have:L.getD i default=qaq P N ops o:=by
     rw[hgi];simp only[hL,List.getElem_map,hoi]
    rw[this];unfold qaq;split
    ·exact .inl ⟨_,_,by assumption,by assumption,by simp[hdf]⟩
    ·exact .inr rfl
   have hoN:o.dst=none\/∃d,o.dst=some d/\d<nt:=by
    cases hd:o.dst with
    |none=>exact .inl rfl
    |some d=>exact .inr ⟨d,rfl,hdst o (by rw[<-hoi];simp) d hd⟩
   have hinv:∀{v:PV} {H':CP} {u:CJ} {w':CL} {S':qac} {β':Pl},Ext B w S w' S'->Swf w' S'->HOK C B w' S' β' H'->Later β β'->Ae C w' S' β' v u->Hc.length<=H'.length->Lb base β β'->
     Inv P N C E B base nt ⟨qcr fr o.dst v,H'⟩ (a.put o.dst u) w' S' β':=by
    intro v H' u w' S' β' e1 e2 e3 e4 e5 e6 e7;refine⟨e2,hI.gok.ext e1,zzL hI.hB e1.below.size,e3,?_,?_,?_,⟨yb,hyb,hyok.later e1 (e7.mono hyb)⟩,zzL hI.base e6⟩
    ·rcases hoN with hd|⟨d,hd,hdn⟩
     ·rw[hd];exact hI.fok.ext e1 e4
     ·rw[hd];exact (hI.fok.ext e1 e4).put (by rw[hI.size];exact hdn) e5
    ·cases hd:o.dst with
     |none=>exact hI.size
     |some d=>simp[Act.put,hI.size]
    ·rcases hoN with hd|⟨d,hd,hdn⟩
     ·rw[hd];exact hI.defers.ext e1 e4
     ·rw[hd];refine (hI.defers.ext e1 e4).frame λt ht=>?_
      have hlt:=Nat.lt_of_lt_of_le hdn (zzL hng ht)
      show (fr.set d v).get t=_
      rw[qdm,if_neg (λh=>Nat.lt_irrefl _ (h▸hlt))]
   rcases hdig with ⟨x,g,hx,hg,hLi⟩|hbad
   ·unfold wpOpIn;rw[ho];simp only;rcases qvv hstep with ⟨hgt,v,H',hev,hst'⟩|⟨hgf,hst'⟩
    ·
     have hgfr:gd (L.getD i default) fr=some true:=by rw[qys huse];exact hgt
     rw[hLi]at hgfr;have hw:=qvU (ops:=ops) (o:=o) hI.fok hg hgfr
     rw[if_pos hw];obtain⟨c1,c2,c3⟩:=qOR (E:=E) (H:=Hc) (fr:=fr) (fr':=(st i).fr) (id:=qbF L id0 i) (x:=(L.getD i default).op) (λt ht=>huse t (zzB.2 (.inl ht)))
     have hlenc:Hc.length=(st i).H.length:=by rw[hHl];exact (hheap i (by omega)).symm
     have hadd1:(L.getD i default).op.adds=true->β (qbF L id0 i)=.pend/\qbF L id0 i<Hc.length:=by
      intro ha;refine⟨hpend i hiL ha hun,?_⟩
      have:=qpE (id0:=id0) hiL ha (Nat.lt_add_one i)
      have h2:qbF L id0 (i+1)<=id0+qao L:=by unfold qbF;have:=qtS L (i+1);omega
      omega
     obtain⟨Hn,hev1,hin,hout,hFl⟩:∃Hn:CP,qaa E (rd E fr) Hc (qbF L id0 i) (L.getD i default).op=some (v,Hn)/\(∀o',o'∈WW E L id0 st i->Hn.obj o'=(st (i+1)).H.obj o')/\(∀o',o'∉WW E L id0 st i->Hn.obj o'=Hc.obj o')/\Hn.length=Hc.length:=by
      cases hk:(L.getD i default).op.okD (rd E (st i).fr)with
      |false=>
       obtain⟨he1,he2⟩:=qwR hk hev;have hHc2:Hc=(st i).H:=by
        refine qHa hlenc λo' ho'=>hobj o' (zzB.2 (.inr ?_))
        unfold AP;rw[qkQ hgt,hk];exact List.mem_range.2 ho'
       subst hHc2;refine⟨H',by rw[(qtY (E:=E) (fr:=fr) (fr':=(st i).fr) (id:=qbF L id0 i) (x:=(L.getD i default).op) (λt ht=>huse t (zzB.2 (.inl ht)))).1];exact he1,λo' _=>by rw[hst'],λo' ho'=>?_,he2⟩
       rw[<-(qqN htr hiL).2 o' ho',hst']
      |true=>
       obtain⟨F,hF,hHF,hloc⟩:=qBb hk hev;have hfoot:∀o'∈qaE (rd E (st i).fr) (L.getD i default).op,Hc.obj o'=(st i).H.obj o':=by
        intro o' ho';refine hobj o' (zzB.2 (.inr ?_));unfold AP;rw[qkQ hgt,hk];exact ho'
       have hev1:qal E (rd E fr) Hc (qbF L id0 i) (L.getD i default).op=some (v,F Hc):=by
        rw[c1];exact hloc Hc hfoot
       have hWi:WW E L id0 st i=(if (L.getD i default).op.adds then [qbF L id0 i]else [])++(qa8 (rd E (st i).fr) (L.getD i default).op++chg (st i).H (st (i+1)).H (qaE (rd E (st i).fr) (L.getD i default).op)):=by
        unfold WW AA;rw[qkQ hgt,hk];rfl
       have hid:(L.getD i default).op.adds=true->Hc.obj (qbF L id0 i)=(st i).H.obj (qbF L id0 i):=λha=>hobj _ (zzB.2 (.inl (by rw[hWi,if_pos ha];exact zzB.2 (.inl (zzH.2 rfl)))))
       refine⟨F Hc,?_,?_,?_,qyl hF Hc⟩
       ·have hkc:(L.getD i default).op.okD (rd E fr)=true:=by
         rw[(qtY (E:=E) (H:=Hc) (fr:=fr) (fr':=(st i).fr) (id:=qbF L id0 i) (x:=(L.getD i default).op) (λt ht=>huse t (zzB.2 (.inl ht)))).2.1];exact hk
        unfold qal at hev1;rw[if_pos hkc]at hev1;exact hev1
       ·intro o' ho';rw[hst',hHF];refine qyk hF hfoot hid hlenc ?_;rw[hWi]at ho';rcases zzB.1 ho' with h|h
        ·split at h
         ·rename_i ha;exact .inr ⟨ha,zzH.1 h⟩
         ·cases h
        ·rcases zzB.1 h with h|h
         ·exact .inl (qvw h)
         ·exact .inl (qr1 h)
       ·intro o' ho';have hno:¬((L.getD i default).op.adds=true/\o'=qbF L id0 i):=by
         rintro⟨ha,hb⟩;rw[hWi,if_pos ha]at ho';exact ho' (zzB.2 (.inl (by rw[hb];exact zzH.2 rfl)))
        by_cases hm:o'∈qaE (rd E (st i).fr) (L.getD i default).op
        ·rw[hfoot o' hm,<-(qqN htr hiL).2 o' ho',hst',hHF];exact qyk hF hfoot hid hlenc (.inl hm)
        ·exact qym hF hm hno
     have hev2:qaa E (rd E fr) Hc (if x.adds then qbF L id0 i else Hc.length) x=some (v,Hn):=by
      have h3:=hev1
      rw[hLi]at h3;cases ha:x.adds with
      |true=>exact h3
      |false=>rw[<-h3];exact qpf ha _ _
     have hadd2:x.adds=(L.getD i default).op.adds:=by rw[hLi]
     refine qt0 hO hN hI.gok hI.swf hI.hB hI.hok hI.fok hnd hyok (zzL hyb hI.base) hx ?_ hev2 ?_
     ·intro ha;rw[if_pos ha];exact hadd1 (hadd2▸ha)
     ·intro u w' S' β' e1 e2 e3 e4 e5 e6 e7;have hlb1:Lb base β β':=by
       intro o' ho';have hb:base<=Hc.length:=hI.base
       refine⟨e4 o',λhp=>e7 o' (Nat.lt_of_lt_of_le ho' hb) ?_ hp⟩
       split
       ·unfold qbF;omega
       ·omega
      refine ih (listed.setIfInBounds i true) (a.put o.dst u) w' S' β' (qcr fr o.dst v) Hn hsz' hcl' hcnt' (hinv e1 e2 e3 e4 e5 e6 hlb1) ?_ (hH2 _ hin hout) (hFl.trans hHl) ?_ (he.trans e1) (hlb.trans hlb1)
      ·rw[<-hdo];exact hfr2 v H' hst'
      ·intro k hk hka hkl;rw[hset]at hkl;simp only[zzD,beq_eq_false_iff_ne]at hkl;have h1:=hpend k hk hka hkl.1
       have h2:qbF L id0 k<Hc.length:=by
        have:=qpE (id0:=id0) hk hka (Nat.lt_add_one k)
        have h2:qbF L id0 (k+1)<=id0+qao L:=by unfold qbF;have:=qtS L (k+1);omega
        omega
       refine e7 _ h2 ?_ h1;split
       ·rename_i ha;rw[hadd2]at ha;rcases Nat.lt_or_gt_of_ne hkl.2 with hlt|hgt
        ·have:=qpE (id0:=id0) hk hka hlt;omega
        ·have:=qpE (id0:=id0) hiL ha hgt;omega
       ·omega
    ·
     have hgfr:gd (L.getD i default) fr=some false:=by rw[qys huse];exact hgf
     rw[hLi]at hgfr;have hw:=qvU (ops:=ops) (o:=o) hI.fok hg hgfr
     rw[hw];simp only[zzg,if_false];refine⟨λ_ _=>trivial,?_⟩
     have hW0:WW E L id0 st i=[]:=by
      unfold WW AA;rw[qkQ hgf];rfl
     refine ih (listed.setIfInBounds i true) (a.put o.dst undef) w S β (qcr fr o.dst (.t [])) Hc hsz' hcl' hcnt' (hinv (Ext.refl _ _ _) hI.swf hI.hok (Later.refl _) (.t [] [] rfl (λj h=>absurd h (zzm _))) (zzt _) (Lb.refl _ _)) ?_ (hH2 _ (λo' ho'=>by rw[hW0]at ho';cases ho') (λ_ _=>rfl)) hHl ?_ he hlb
     ·rw[<-hdo];exact hfr2 _ _ hst'
     ·intro k hk hka hkl;rw[hset]at hkl;simp only[zzD]at hkl;exact hpend k hk hka hkl.1
   ·exfalso
    rw[hbad]at hstep;simp[Bn,qal,IOp.okD,IOp.barr]at hstep
def qqh(H:CP)(n o:Nat):Heap.obj (H++List.replicate n none) o=H.obj o:=by
 rcases Nat.lt_or_ge o H.length with h|h
 ·unfold Heap.obj;rw[List.getElem?_append_left h]
 ·unfold Heap.obj;rw[List.getElem?_append_right h,List.getElem?_replicate,List.getElem?_eq_none h];by_cases hc:o-H.length<n
  ·rw[if_pos hc]
  ·rw[if_neg hc]
def qPS(hO:OrOK P C N E)(hN:NOK P N C E.G)(hng:nt<=gh){id:Nat}{ops:Array Oper}{s s':St}{a:Act}{w:CL}{S:qac}{β:Pl}{Q:Exit->Act->CL->Prop}(hnof:∀o∈ops.toList,qbG o.op=false)(hdst:∀o∈ops.toList,∀d,o.dst=some d->d<nt)
  (hok:qje ops.toList (ops.toList.map (qaq P N ops))=true) (he:qbu E (ops.toList.map (qaq P N ops)) (bef ops.toList []) [] s.H.length ⟨s.fr,s.H++List.replicate (qao (ops.toList.map (qaq P N ops))) none⟩=some s') (hI:Inv P N C E B base nt s a w S β)
  (hQ:∀a' w' S' β',Inv P N C E B base nt s' a' w' S' β'->Ext B w S w' S'->Lb base β β'->Q .normal a' w'):(Code.region id ops true).wpIn (FR ro) nf P Q a w:=by
 refine wpIn_region_any hN.mixed ?_;obtain⟨st,h0,h1,h2,h3⟩:=qCV _ _ _ _ _ _ he;have hd:(w.drew:CL)={ w with drawn:=w.drawn+1 }:=rfl
 rw[<-hd];have hlen0:(st 0).H.length=s.H.length+qao (ops.toList.map (qaq P N ops)):=by rw[h0];simp
 have hno:∀j,(Array.replicate ops.size false).getD j false=false:=λj=>by
  simp[zzx,Array.getElem?_replicate];split<;>rfl
 have hz:∀{α:Type} (w:Nat->Nat->CG) (v:Nat->Nat->α) (z:Nat->α) (m t:Nat),GF w v z (λj=>(Array.replicate ops.size false).getD j false) m t=z t:=by
  intro α w v z m t;induction m with
  |zero=>rfl
  |succ m ih=>
   show (if (Array.replicate ops.size false).getD m false&&w m t then _ else _)=_
   rw[hno m];exact ih
 obtain⟨yb,hyb,hyok⟩:=hI.yok;have hg:=qno hI.hok (qao (ops.toList.map (qaq P N ops)))
 refine qF9 (B:=B) (base:=base) (nt:=nt) (st:=st) (id0:=s.H.length) (w0:=w) (S0:=S) (β0:=β) hO hN hng hnof rfl hdst hok h2 (by simpa using h3) ?_ hI.base ?_ ops.size (Array.replicate ops.size false) a w.drew S β s.fr (s.H++List.replicate (qao (ops.toList.map (qaq P N ops))) none) (by simp) ?_ ?_ ?_ ?_ ?_ ?_ ?_ (qbE (B:=B)) (Lb.refl _ _)
 ·rw[hlen0];exact zzt _
 ·intro a' w' S' β' hI' e1 e2;rw[h1]at hI';exact hQ a' w' S' β' hI' e1 e2
 ·intro j hj hl;rw[hno]at hl;cases hl
 ·refine zzL (List.countP_le_length) ?_;simp
 ·refine⟨hI.swf.ext (qbE (B:=B)),hI.gok.ext (qbE (B:=B)),hI.hB,hg.drew,hI.fok.ext (qbE (B:=B)) (Later.refl _),hI.size,hI.defers.ext (qbE (B:=B)) (Later.refl _),⟨yb,hyb,hyok.later (qbE (B:=B)) (Lb.refl _ _)⟩,?_⟩
  have:=hI.base
  simp only[zzp];omega
 ·intro t;unfold TF;rw[hz,h0]
 ·intro o;unfold HF;rw[hz,h0]
 ·rw[h0]
 ·intro k hk _ _;refine hI.hok.out _ ?_;unfold qbF;omega
end
def qxp{E:Env}{fr:Fr}:∀{ps:CF (Nat×K×Ab)} {qs:CF (Nat×K×PV)},qo6 ps=some qs->ps.map (λx=>(x.1,x.2.1,rd E fr x.2.2))=qs
 |[],qs,h=>by cases h;rfl
 | (c,k,.c v)::r,qs,h=>by
  simp only[qo6,Option.map_eq_some_iff]at h;obtain⟨l,h1,rfl⟩:=h;rw[zzu,qxp h1];rfl
 | (_,_,.t _)::_,_,h=>by cases h
 | (_,_,.g _)::_,_,h=>by cases h
 | (_,_,.f _)::_,_,h=>by cases h
def qJE{E:Env}{fr:Fr}{H:CP}{id:Nat}{x:IOp}{k:DV}(h:qij x=some k):qaa E (rd E fr) H id x=some (.d k,H):=by
 unfold qij at h;split at h
 ·rename_i z ps;split at h
  ·rename_i qs hq;split at h
   ·rename_i cs hcs;split at h
    ·rename_i k' hk;simp only[zzb]at h;subst h;simp only[qaa,qxp hq,hcs,hk]
    ·cases h
   ·cases h
  ·cases h
 ·cases h
def qjv(id0:Nat)(o:Ao):PV:=match qij o.op with|some k=>.d k|none=>.h id0
def qx7{α:Type}{e:Nat->CE α}{S:Nat->CG}{i:Nat}(hS:S i=false):∀l:Cy,l.Nodup->(l.filterMap λj=>if (S j||j==i)=true then e j else none).Perm (if i∈l then (e i).toList++(l.filterMap λj=>if S j=true then e j else none)else l.filterMap λj=>if S j=true then e j else none)
 |[],_=>by simp
 |a::r,hn=>by
  obtain⟨ha,hr⟩:=List.nodup_cons.1 hn;have ih:=qx7 (e:=e) hS r hr
  by_cases hai:a=i
  ·subst hai;rw[if_neg ha]at ih;rw[if_pos (zzr ..),List.filterMap_cons,List.filterMap_cons];simp only[hS,BEq.rfl,Bool.or_true,if_true,zzg,if_false];cases e a with
   |none=>simpa using ih
   |some x=>simpa using ih
  ·have hb:(a==i)=false:=by simpa using hai
   have hm:(i∈a::r)↔i∈r:=by
    rw[List.mem_cons];exact⟨λh=>h.resolve_left λe=>hai e.symm,.inr⟩
   rw[List.filterMap_cons,List.filterMap_cons];simp only[hb,Bool.or_false];by_cases hir:i∈r
   ·rw[if_pos (hm.2 hir)];rw[if_pos hir]at ih;cases hh:(if S a=true then e a else none)with
    |none=>simpa using ih
    |some x=>
     simp only;exact (ih.cons x).trans (List.perm_middle.symm)
   ·rw[if_neg (λh=>hir (hm.1 h))]
    rw[if_neg hir]at ih;cases hh:(if S a=true then e a else none)with
    |none=>simpa using ih
    |some x=>simpa using ih
def qem(L:CF Ao)(S:Nat->CG):CF (DV×DV):=(List.range L.length).filterMap λj=>if S j=true then qb2 L j else none
structure Desc (L:List Ao) (id0:Nat) (fr0:Fr) (H0:Heap) (S:Nat->Bool) (fr:Fr) (H:Heap):Prop where
 f1:∀j,j<L.length->S j=true->∀t,(L.getD j default).dst=some t->fr.get t=qjv id0 (L.getD j default)
 f2:∀t,(∀j,j<L.length->S j=true->(L.getD j default).dst≠some t)->fr.get t=fr0.get t
 h0:H.length=H0.length
 h1:∀o,o≠id0->H.obj o=H0.obj o
 h2:S 0=false->H.obj id0=H0.obj id0/\∀j,j<L.length->S j=true->qb2 L j=none
 h3:S 0=true->∃es,H.obj id0=some (.mp es)/\es.Perm (qem L S)
def qkJ{L:CF Ao}{id0:Nat}{fr0:Fr}{H0:CP}{S S':Nat->CG}{fr:Fr}{H:CP}(h:∀j,j<L.length->S j=S' j)(hL:0<L.length)(D:Desc L id0 fr0 H0 S fr H):Desc L id0 fr0 H0 S' fr H:=by
 have he:qem L S=qem L S':=by
  unfold qem;have key:∀l:Cy,(∀j∈l,j<L.length)->(l.filterMap λj=>if S j=true then qb2 L j else none)=l.filterMap λj=>if S' j=true then qb2 L j else none:=by
   intro l;induction l with
   |nil=>intro _;rfl
   |cons a r ih=>
    intro hl;rw[List.filterMap_cons,List.filterMap_cons,h a (hl a (by simp)),ih λj hj=>hl j (by simp[hj])]
  exact key _ λj hj=>List.mem_range.1 hj
 refine⟨λj hj hs=>D.f1 j hj (by rw[h j hj];exact hs),λt ht=>D.f2 t λj hj hs=>ht j hj (by rw[<-h j hj];exact hs),D.h0,D.h1,λh0=>?_,λh0=>?_⟩
 ·obtain⟨a,b⟩:=D.h2 (by rw[h 0 hL];exact h0)
  exact⟨a,λj hj hs=>b j hj (by rw[h j hj];exact hs)⟩
 ·obtain⟨es,a,b⟩:=D.h3 (by rw[h 0 hL];exact h0)
  exact⟨es,a,he▸b⟩
section
variable {L:CF Ao}{bf:Cy}{t0:Nat}{r0:CF Ao}
def qp1(hL:L=⟨some t0,.Bz,none⟩::r0)(h:qcQ L bf=true):(∀j,0<j->j<L.length->qp0 L bf t0 j (L.getD j default)=true)/\∀i j,i<j->j<L.length->∀t,(L.getD j default).dst=some t->(L.getD i default).dst≠some t:=by
 subst hL;simp only[qcQ,zzf,List.all_eq_true,List.mem_range,Bool.or_eq_true,beq_iff_eq]at h;refine⟨λj h0 hj=>(h.1 j hj).resolve_left (by omega),λi j hij hj t ht hi=>?_⟩
 have:=h.2 j hj i hij
 rw[ht]at this;simp only[Bool.not_eq_true',zzE]at this;exact this hi
def qJF(hL:L=⟨some t0,.Bz,none⟩::r0)(h:qcQ L bf=true){i j:Nat}(hi:i<L.length)(hj:j<L.length)(hij:i≠j){t:Nat}(ht:(L.getD j default).dst=some t):(L.getD i default).dst≠some t:=by
 rcases Nat.lt_or_gt_of_ne hij with h1|h1
 ·exact (qp1 hL h).2 i j h1 hj t ht
 ·intro hi';exact (qp1 hL h).2 j i h1 hi t hi' ht
inductive LK (L:List Ao) (t0 j:Nat):Ao->Prop
 |mk:j=0->LK L t0 j ⟨some t0,.Bz,none⟩
 |ag (t:Nat) (x:IOp) (k:DV):qij x=some k->x.adds=false->(∀ky a b c,x≠.mset ky a b c)->LK L t0 j ⟨some t,x,none⟩
 |ms (ky:Ky) (k i:Nat) (key v:DV):i<j->(L.getD i default).dst=some k->qij (L.getD i default).op=some key->qeW ky key=true->qpV L j k=some key->LK L t0 j ⟨none,.mset ky (.t t0) (.t k) (.c v),none⟩
 |mv (t x i:Nat):i<j->(L.getD i default).dst=some x->qij (L.getD i default).op=none->LK L t0 j ⟨some t,.mov (.t x),none⟩
def qCP{α:Type}[Inhabited α]{L:CF α}{j:Nat}{o:α}(h:o∈L.take j):∃i,i<j/\i<L.length/\L.getD i default=o:=by
 obtain⟨i,hi,e⟩:=zzO h;rw[zzI]at hi;rw[List.getElem_take]at e;refine⟨i,by omega,by omega,?_⟩
 rw[List.getD_eq_getElem?_getD,zze (by omega),zzA];exact e
def qp2(hL:L=⟨some t0,.Bz,none⟩::r0)(h:qcQ L bf=true){j:Nat}(hj:j<L.length):LK L t0 j (L.getD j default):=by
 by_cases h0:j=0
 ·subst h0;subst hL;exact .mk rfl
 ·have hl:=(qp1 hL h).1 j (by omega) hj
  generalize L.getD j default=o at *
  unfold qp0 at hl;split at hl
  ·rename_i t z ps;obtain⟨k,hk⟩:=Option.isSome_iff_exists.1 hl;exact .ag t _ k hk rfl (λ_ _ _ _ e=>by cases e)
  ·rename_i ky m k v;simp only[zzf,zzq]at hl;obtain⟨rfl,hl⟩:=hl;split at hl
   ·rename_i key hkey;simp only[zzf]at hl;have hk2:=hkey
    unfold qpV at hk2;obtain⟨o,ho,e⟩:=List.exists_of_findSome?_eq_some hk2;split at e
    ·rename_i hd;obtain⟨i,hi,-,rfl⟩:=qCP ho;exact .ms ky k i key v hi hd e hl.1 hkey
    ·cases e
   ·cases hl
  ·rename_i t x;simp only[zzf]at hl;have hm:=hl.1
   unfold qAw at hm;obtain⟨o,ho,e⟩:=List.any_eq_true.1 hm;simp only[zzf,zzq]at e;obtain⟨i,hi,-,rfl⟩:=qCP ho;refine .mv t x i hi e.1 ?_;have e2:=e.2
   unfold qy8 at e2;split at e2
   ·rename_i e3;rw[e3];rfl
   ·rename_i e3;rw[e3];rfl
   ·cases e2
  ·cases hl
def qyC(L:CF Ao){j:Nat}(hj:j<L.length):L[j]? = some (L.getD j default):=by
 rw[List.getD_eq_getElem?_getD,zze hj,zzA]
def qAf(hL:L=⟨some t0,.Bz,none⟩::r0)(h:qcQ L bf=true){i j:Nat}(hij:i<j)(hj:j<L.length){a b:DV×DV}(ha:qb2 L i=some a)(hb:qb2 L j=some b):qbo b.1 a.1=some false:=by
 have hl:=(qp1 hL h).1 j (by omega) hj
 have hb':=hb
 unfold qb2 at hb';rw[qyC L hj]at hb';generalize L.getD j default=o at *
 split at hb'
 ·rename_i d ky x k v g e;simp only[zzb]at e;subst e;unfold qp0 at hl;split at hl
  ·rename_i e2;cases e2
  ·rename_i ky' m k' v' e2;cases e2;simp only[zzf,zzq]at hl;obtain⟨-,hl⟩:=hl;split at hl
   ·rename_i key hkey;rw[hkey]at hb';simp only[Option.map_some,zzb]at hb';subst hb';simp only[zzf,List.all_eq_true,List.mem_range]at hl
    have:=hl.2 i hij
    rw[ha]at this;simpa using this
   ·cases hl
  ·rename_i e2;cases e2
  ·cases hl
 ·cases hb'
end
section
variable {L:CF Ao}{bf:Cy}{t0:Nat}{r0:CF Ao}{E:Env}{id0:Nat}{fr0 fr:Fr}{H0 H:CP}{S:Nat->CG}
def qGf{e:DV×DV}(h:e∈qem L S):∃i,i<L.length/\S i=true/\qb2 L i=some e:=by
 unfold qem at h;obtain⟨i,hi,he⟩:=List.mem_filterMap.1 h;split at he
 ·rename_i hs;exact⟨i,List.mem_range.1 hi,hs,he⟩
 ·cases he
def qGe{j:Nat}(hj:j<L.length)(hun:S j=false):(qem L λk=>S k||k==j).Perm ((qb2 L j).toList++qem L S):=by
 have:=qx7 (e:=qb2 L) hun (List.range L.length) List.nodup_range
 rw[if_pos (List.mem_range.2 hj)]at this;exact this
def qFY(hL:L=⟨some t0,.Bz,none⟩::r0)(hlit:qcQ L bf=true)(D:Desc L id0 fr0 H0 S fr H){j:Nat}(hj:j<L.length){v:PV}(hv:∀t,(L.getD j default).dst=some t->v=qjv id0 (L.getD j default)) :
  (∀i,i<L.length->(S i||i==j)=true->∀t,(L.getD i default).dst=some t->(qcr fr (L.getD j default).dst v).get t=qjv id0 (L.getD i default))/\
  ∀t,(∀i,i<L.length->(S i||i==j)=true->(L.getD i default).dst≠some t)->(qcr fr (L.getD j default).dst v).get t=fr0.get t:=by
 refine⟨λi hi hs t ht=>?_,λt ht=>?_⟩
 ·rw[qnn];by_cases hij:i=j
  ·subst hij;rw[if_pos ht];exact hv t ht
  ·rw[if_neg (qJF hL hlit hj hi (λe=>hij e.symm) ht)]
   have:S i=true:=by simpa[hij]using hs
   exact D.f1 i hi this t ht
 ·rw[qnn,if_neg (ht j hj (by simp))]
  exact D.f2 t λi hi hs=>ht i hi (by simp[hs])
def qAi(hL:L=⟨some t0,.Bz,none⟩::r0)(hlit:qcQ L bf=true)(hid:id0<H0.length)(D:Desc L id0 fr0 H0 S fr H){j:Nat}(hj:j<L.length)(hun:S j=false)
  (hdep:∀i,i<j->∀t,(L.getD i default).dst=some t->t∈(L.getD j default).op.uses->S i=true) :
  ∃v H',qaa E (rd E fr) H id0 (L.getD j default).op=some (v,H')/\Desc L id0 fr0 H0 (λk=>S k||k==j) (qcr fr (L.getD j default).dst v) H':=by
 have hk:=qp2 hL hlit hj
 have hid':id0<H.length:=by rw[D.h0];exact hid
 have hLp:0<L.length:=by omega
 have hfr:=λv hv=>qFY hL hlit D hj (v:=v) hv
 have hadd:=qGe (L:=L) (S:=S) hj hun
 have hg0:L.getD 0 default=⟨some t0,.Bz,none⟩:=by subst hL;rfl
 have hgo:=qyC L hj
 generalize ho:L.getD j default=o at *
 cases hk with
 |mk h0=>
  subst h0;have he:qb2 L 0=none:=by unfold qb2;rw[hgo]
  obtain⟨a1,a2⟩:=D.h2 hun;obtain⟨g1,g2⟩:=hfr (.h id0) (λt _=>rfl)
  refine⟨.h id0,H.put id0 (some (.mp [])),rfl,g1,g2,by rw[qaT];exact D.h0,λo ho=>?_,λh=>by simp at h,λ_=>⟨[],?_,?_⟩⟩
  ·rw[qdv,if_neg (λc=>ho c.1)];exact D.h1 o ho
  ·rw[qdv,if_pos ⟨rfl,hid'⟩]
  ·rw[he]at hadd;refine (List.Perm.symm ?_);refine hadd.trans ?_;have:qem L S=[]:=by
    unfold qem;rw[List.filterMap_eq_nil_iff];intro i hi;split
    ·rename_i hs;exact a2 i (List.mem_range.1 hi) hs
    ·rfl
   rw[this];exact .nil
 |ag t x k hx ha hm=>
  have he:qb2 L j=none:=by
   unfold qb2;rw[hgo];split
   ·rename_i e;simp only[zzb,Ao.mk.injEq]at e;exact absurd e.2.1 (hm _ _ _ _)
   ·rfl
  obtain⟨g1,g2⟩:=hfr (.d k) (λt _=>by show _=qjv id0 ⟨some _,x,none⟩;unfold qjv;rw[hx])
  refine⟨.d k,H,qJE hx,g1,g2,D.h0,D.h1,λh=>?_,λh=>?_⟩
  ·simp only[zzD]at h;obtain⟨a1,a2⟩:=D.h2 h.1;refine⟨a1,λi hi hs=>?_⟩
   by_cases hij:i=j
   ·subst hij;exact he
   ·exact a2 i hi (by simpa[hij]using hs)
  ·have h0:S 0=true:=by
    cases hS:S 0 with
    |true=>rfl
    |false=>
     rw[hS]at h;have:j=0:=by
      have:(0==j)=true:=by simpa using h
      have:=beq_iff_eq.1 this
      omega
     subst this;rw[hg0]at ho;cases ho;simp[IOp.adds]at ha
   obtain⟨es,b1,b2⟩:=D.h3 h0;rw[he]at hadd;exact⟨es,b1,b2.trans hadd.symm⟩
 |ms ky k i key v hi hd hlo hky hka=>
  have hj0:0<j:=by omega
  have hS0:S 0=true:=hdep 0 hj0 t0 (by rw[hg0]) (by simp[IOp.uses,Ab.uses])
  have hSi:S i=true:=hdep i hi k hd (by simp[IOp.uses,Ab.uses])
  have e1:fr.get t0=.h id0:=by
   have:=D.f1 0 hLp hS0 t0 (by rw[hg0])
   rw[hg0]at this;exact this
  have e2:fr.get k=.d key:=by
   have:=D.f1 i (by omega) hSi k hd
   unfold qjv at this;rw[hlo]at this;exact this
  obtain⟨es,b1,b2⟩:=D.h3 hS0;have he:qb2 L j=some (key,v):=by unfold qb2;rw[hgo];simp only[hka,Option.map_some]
  have hno:NoK key es:=by
   intro e hem;obtain⟨i',hi',hs',hen⟩:=qGf (b2.mem_iff.1 hem);have hne:i'≠j:=λc=>by rw[c,hun]at hs';cases hs'
   rcases Nat.lt_or_gt_of_ne hne with h1|h1
   ·exact qAf hL hlit h1 hj hen he
   ·exact qtg (qAf hL hlit h1 hi' he hen)
  obtain⟨g1,g2⟩:=hfr .u (λt ht=>by cases ht)
  refine⟨.u,H.put id0 (some (.mp (es++[(key,v)]))),?_,g1,g2,by rw[qaT];exact D.h0,λo ho=>?_,λh=>?_,λ_=>⟨es++[(key,v)],?_,?_⟩⟩
  ·simp only[qaa,rd,e1,e2,pur,qaW,hky,if_true,b1,quf hno,frz]
  ·rw[qdv,if_neg (λc=>ho c.1)];exact D.h1 o ho
  ·rw[hS0]at h;simp at h
  ·rw[qdv,if_pos ⟨rfl,hid'⟩]
  ·rw[he]at hadd;refine (List.Perm.trans ?_ hadd.symm);show (es++[(key,v)]).Perm ((key,v)::qem L S)
   exact (List.perm_append_comm).trans (b2.cons _)
 |mv t x i hi hd hlo=>
  have hSi:S i=true:=hdep i hi x hd (by simp[IOp.uses,Ab.uses])
  have e1:fr.get x=.h id0:=by
   have:=D.f1 i (by omega) hSi x hd
   unfold qjv at this;rw[hlo]at this;exact this
  have he:qb2 L j=none:=by unfold qb2;rw[hgo]
  obtain⟨g1,g2⟩:=hfr (.h id0) (λt _=>rfl)
  refine⟨.h id0,H,by simp only[qaa,rd,e1],g1,g2,D.h0,D.h1,λh=>?_,λh=>?_⟩
  ·simp only[zzD]at h;obtain⟨a1,a2⟩:=D.h2 h.1;refine⟨a1,λi' hi' hs=>?_⟩
   by_cases hij:i'=j
   ·subst hij;exact he
   ·exact a2 i' hi' (by simpa[hij]using hs)
  ·have h0:S 0=true:=by
    cases hS:S 0 with
    |true=>rfl
    |false=>
     rw[hS]at h;have:(0==j)=true:=by simpa using h
     have:=beq_iff_eq.1 this
     omega
   obtain⟨es,b1,b2⟩:=D.h3 h0;rw[he]at hadd;exact⟨es,b1,b2.trans hadd.symm⟩
def qAg(hL:L=⟨some t0,.Bz,none⟩::r0)(hlit:qcQ L bf=true){j:Nat}(hj:j<L.length):(L.getD j default).g=none/\(0<j->(L.getD j default).op.adds=false):=by
 have hk:=qp2 hL hlit hj
 generalize L.getD j default=o at *
 cases hk with
 |mk h0=>exact⟨rfl,λh=>by omega⟩
 |ag t x k hx ha hm=>exact⟨rfl,λ_=>ha⟩
 |ms=>exact⟨rfl,λ_=>rfl⟩
 |mv=>exact⟨rfl,λ_=>rfl⟩
def qAh(hL:L=⟨some t0,.Bz,none⟩::r0)(hlit:qcQ L bf=true)(hid:id0<H0.length):∀(m i id:Nat) (fr:Fr) (H:CP) (s':St),i+m=L.length->Desc L id0 fr0 H0 (λk=>decide (k<i)) fr H->(i=0->id=id0)->qaM E (L.drop i) id ⟨fr,H⟩=some s'->Desc L id0 fr0 H0 (λ_=>true) s'.fr s'.H
 |0,i,id,fr,H,s',hi,D,_,he=>by
  rw[zzF (by omega)]at he
  simp only[qaM,zzb]at he;subst he;have hp:0<L.length:=by rw[hL];simp
  exact qkJ (λj hj=>by simp;omega) hp D
 |m+1,i,id,fr,H,s',hi,D,hz,he=>by
  have hil:i<L.length:=by omega
  obtain⟨v,H',h1,h2⟩:=qAi (E:=E) hL hlit hid D hil (by simp) (λk hk _ _ _=>by simpa using hk)
  obtain⟨g1,g2⟩:=qAg hL hlit hil;have hev:qaa E (rd E fr) H id (L.getD i default).op=some (v,H'):=by
   by_cases h0:i=0
   ·rw[hz h0];exact h1
   ·rw[qpf (g2 (by omega)) id id0];exact h1
  have hdr:L.drop i=L.getD i default::L.drop (i+1):=by
   rw[zzz hil,List.getD_eq_getElem?_getD,zze hil,zzA]
  rw[hdr]at he;simp only[qaM,g1,hev]at he;have hp:0<L.length:=by omega
  refine qAh hL hlit hid m (i+1) _ _ _ s' (by omega) (qkJ (λj hj=>?_) hp h2) (λh=>by omega) he
  rw[Bool.eq_iff_iff];simp only[Bool.or_eq_true,zzq,beq_iff_eq];omega
end
section
variable {P:CO}{N:Names}{C:Cx}{B base nt:Nat}{E:Env}{ro:CE Nat}{nf:Nat}
def qJG(hO:OrOK P C N E)(hN:NOK P N C E.G)(hng:nt<=gh){ops:Array Oper}(hnof:∀o∈ops.toList,qbG o.op=false){L:CF Ao}(hLd:L=ops.toList.map (qaq P N ops)){id0:Nat}{fr0:Fr}{H0:CP}{Q:Exit->Act->CL->Prop}(hdst:∀o∈ops.toList,∀d,o.dst=some d->d<nt)
  (hok:qje ops.toList L=true) {t0:Nat} {r0:CF Ao} (hL:L=⟨some t0,.Bz,none⟩::r0) (hlit:qcQ L (bef ops.toList [])=true) (hid:id0<H0.length)
  {w0:CL} {S0:qac} {β0:Pl} (hbase:base<=id0) (hQ:∀a' w' S' β' fr H,Inv P N C E B base nt ⟨fr,H⟩ a' w' S' β'->Desc L id0 fr0 H0 (λ_=>true) fr H->Ext B w0 S0 w' S'->Lb base β0 β'->Q .normal a' w') :
  ∀(fuel:Nat) (listed:Array CG) (a:Act) (w:CL) (S:qac) (β:Pl) (fr:Fr) (Hc:CP),listed.size=L.length->(∀j (h:j<ops.toList.length),listed.getD j false=true->∀e∈ops.toList[j].after.toList,Region.binds .any e=true->listed.getD e.on false=true)->
   (List.range L.length).countP (λj=>!listed.getD j false)<=fuel->Inv P N C E B base nt ⟨fr,Hc⟩ a w S β->Desc L id0 fr0 H0 (λj=>listed.getD j false) fr Hc->
   (listed.getD 0 false=false->β id0=.pend)->
   Ext B w0 S0 w S->Lb base β0 β->wpAnyIn (FR ro) nf P .any ops Q fuel listed a w:=by
 have hlen:L.length=ops.size:=by rw[hLd];simp
 have hp:0<L.length:=by rw[hL];simp
 have hgetL:∀i (h:i<L.length),L.getD i default=L[i]:=λi h=>by simp[List.getD,zze h]
 have hchk:∀j,j<L.length->(∀e∈(ops.toList.getD j default).after.toList,Region.binds .any e=true->e.on<j)/\∀i,i<j->((bef ops.toList []).getD j 0).testBit i=true\/qmU (L.getD i default) (L.getD j default)=true:=by
  intro j hj;simp only[qje,List.all_eq_true,List.mem_range,zzf,Bool.or_eq_true,Bool.not_eq_true',zzq,Array.length_toList]at hok;obtain⟨h1,h2⟩:=hok j (by omega)
  refine⟨λe he hb=>(h1 e he).resolve_left (by simp[hb]),h2⟩
 have hopsget:∀j (h:j<ops.toList.length),ops.toList.getD j default=ops.toList[j]:=λj h=>by simp[List.getD,zze h]
 have done:∀(listed:Array CG) (a:Act) (w:CL) (S:qac) (β:Pl) (fr:Fr) (Hc:CP),(∀j,j<L.length->listed.getD j false=true)->Inv P N C E B base nt ⟨fr,Hc⟩ a w S β->Desc L id0 fr0 H0 (λj=>listed.getD j false) fr Hc->
   Ext B w0 S0 w S->Lb base β0 β->Q .normal a w:=by
  intro listed a w S β fr Hc hall hI hD he hlb;exact hQ a w S β fr Hc hI (qkJ (λj hj=>hall j hj) hp hD) he hlb
 intro fuel;induction fuel with
 |zero=>
  intro listed a w S β fr Hc hsz hcl hcnt hI hD hpend he hlb;have hall:∀j,j<L.length->listed.getD j false=true:=by
   intro j hj;have h0:(List.range L.length).countP (λj=>!listed.getD j false)=0:=by omega
   rw[List.countP_eq_zero]at h0
   have:=h0 j (List.mem_range.2 hj)
   simpa using this
  refine⟨?_,done listed a w S β fr Hc hall hI hD he hlb⟩;rw[List.eq_nil_iff_forall_not_mem];intro j hj;rw[mem_ready]at hj;obtain⟨h1,o,ho,-⟩:=hj;have hj':j<L.length:=by rw[hlen];exact (Array.getElem?_eq_some_iff.1 ho).1
  have h2:=hall j hj'
  have:listed.getD j true=listed.getD j false:=by
   simp[zzx,Array.getElem?_eq_getElem (show j<listed.size by omega)]
  rw[this,h2]at h1;cases h1
 |succ fuel ih=>
  intro listed a w S β fr Hc hsz hcl hcnt hI hD hpend he hlb;have hgd:∀j,j<L.length->listed.getD j true=listed.getD j false:=λj hj=>by
   simp[zzx,Array.getElem?_eq_getElem (show j<listed.size by omega)]
  refine⟨?_,?_⟩
  ·intro hnil;refine done listed a w S β fr Hc ?_ hI hD he hlb;intro j;induction j using Nat.strongRecOn with
   |ind j ihj=>
    intro hj;cases hl:listed.getD j false with
    |true=>rfl
    |false=>
     exfalso
     have hjo:j<ops.size:=by omega
     have:j∈Region.ready .any ops listed:=by
      rw[mem_ready];refine⟨by rw[hgd j hj];exact hl,ops[j],by simp[hjo],?_⟩
      intro e hem hb;have hlt:=(hchk j hj).1 e (by rw[hopsget j (by simpa using hjo)];simpa using hem) hb
      exact ihj e.on hlt (by omega)
     rw[hnil]at this;exact zzC this
  ·intro i hi;rw[mem_ready]at hi;obtain⟨hun,o,ho,hpre⟩:=hi;have hio:i<ops.size:=(Array.getElem?_eq_some_iff.1 ho).1
   have hiL:i<L.length:=by omega
   have hoi:ops.toList[i]'(by simpa using hio)=o:=by
    have:=(Array.getElem?_eq_some_iff.1 ho).2
    simpa using this
   rw[hgd i hiL]at hun;have hbefi:∀k,((bef ops.toList []).getD i 0).testBit k=true->listed.getD k false=true:=
    qrP (S:=λk=>listed.getD k false=true) hcl i (by simpa using hio) (λe hem hb=>hpre e (by rw[hoi]at hem;simpa using hem) hb)
   have hgi:=hgetL i hiL
   have hdep:∀k,k<i->∀t,(L.getD k default).dst=some t->t∈(L.getD i default).op.uses->listed.getD k false=true:=by
    intro k hk t ht hu;rcases (hchk i hiL).2 k hk with hb|hap
    ·exact hbefi k hb
    ·exact absurd (zzB.2 (.inl hu)) ((qoU hap).1 t ht).1
   obtain⟨v,Hn,hev,hD'⟩:=qAi (E:=E) hL hlit hid hD hiL hun hdep;obtain⟨hgn,hadd⟩:=qAg hL hlit hiL;have hset:∀j,(listed.setIfInBounds i true).getD j false=(listed.getD j false||j==i):=by
    intro j;by_cases hji:j=i
    ·subst hji;simp[zzx,show j<listed.size by omega]
    ·rw[getD_set_ne false (λe=>hji e.symm)]
     simp[hji]
   have hsz':(listed.setIfInBounds i true).size=L.length:=by simp[hsz]
   have hcl':∀j (h:j<ops.toList.length),(listed.setIfInBounds i true).getD j false=true->∀e∈ops.toList[j].after.toList,Region.binds .any e=true->(listed.setIfInBounds i true).getD e.on false=true:=by
    intro j hj hl e hem hb;rw[hset]at hl;rw[hset];by_cases hji:j=i
    ·subst hji;rw[hpre e (by rw[hoi]at hem;simpa using hem) hb];rfl
    ·have:listed.getD j false=true:=by simpa[hji]using hl
     rw[hcl j hj this e hem hb];rfl
   have hcnt':(List.range L.length).countP (λj=>!(listed.setIfInBounds i true).getD j false)<=fuel:=by
    have:=qsa (p:=λj=>!listed.getD j false) (p':=λj=>!(listed.setIfInBounds i true).getD j false) (i:=i) (l:=List.range L.length) (λj _ h=>by
     simp only[hset]at h;simp only[Bool.not_eq_true',zzD]at h⊢;exact h.1) (List.mem_range.2 hiL) (by simp only[hun];rfl) (by simp only[hset];simp)
    omega
   have hD2:Desc L id0 fr0 H0 (λj=>(listed.setIfInBounds i true).getD j false) (qcr fr (L.getD i default).dst v) Hn:=qkJ (λj _=>(hset j).symm) hp hD'
   have hdf:qbG o.op=false:=hnof o (by rw[<-hoi];simp)
   have hnd:∀c,o.op≠.defer c:=λc h=>by rw[h]at hdf;cases hdf
   obtain⟨yb,hyb,hyok⟩:=hI.yok;have hdo:(L.getD i default).dst=o.dst:=by
    rw[hgi];simp only[hLd,List.getElem_map,hoi];exact qsi _ _ hdf
   have hdig:(∃x g,qaO P N o=some x/\qek ops o.guard=some g/\L.getD i default=⟨o.dst,x,g⟩)\/L.getD i default=⟨o.dst,.bad,none⟩:=by
    have:L.getD i default=qaq P N ops o:=by
     rw[hgi];simp only[hLd,List.getElem_map,hoi]
    rw[this];unfold qaq;split
    ·exact .inl ⟨_,_,by assumption,by assumption,by simp[hdf]⟩
    ·exact .inr rfl
   have hoN:o.dst=none\/∃d,o.dst=some d/\d<nt:=by
    cases hd:o.dst with
    |none=>exact .inl rfl
    |some d=>exact .inr ⟨d,rfl,hdst o (by rw[<-hoi];simp) d hd⟩
   have hinv:∀{v:PV} {H':CP} {u:CJ} {w':CL} {S':qac} {β':Pl},Ext B w S w' S'->Swf w' S'->HOK C B w' S' β' H'->Later β β'->Ae C w' S' β' v u->Hc.length<=H'.length->Lb base β β'->
     Inv P N C E B base nt ⟨qcr fr o.dst v,H'⟩ (a.put o.dst u) w' S' β':=by
    intro v H' u w' S' β' e1 e2 e3 e4 e5 e6 e7;refine⟨e2,hI.gok.ext e1,zzL hI.hB e1.below.size,e3,?_,?_,?_,⟨yb,hyb,hyok.later e1 (e7.mono hyb)⟩,zzL hI.base e6⟩
    ·rcases hoN with hd|⟨d,hd,hdn⟩
     ·rw[hd];exact hI.fok.ext e1 e4
     ·rw[hd];exact (hI.fok.ext e1 e4).put (by rw[hI.size];exact hdn) e5
    ·cases hd:o.dst with
     |none=>exact hI.size
     |some d=>simp[Act.put,hI.size]
    ·rcases hoN with hd|⟨d,hd,hdn⟩
     ·rw[hd];exact hI.defers.ext e1 e4
     ·rw[hd];refine (hI.defers.ext e1 e4).frame λt ht=>?_
      have hlt:=Nat.lt_of_lt_of_le hdn (zzL hng ht)
      show (fr.set d v).get t=_
      rw[qdm,if_neg (λh=>Nat.lt_irrefl _ (h▸hlt))]
   rcases hdig with ⟨x,g,hx,hg,hLi⟩|hbad
   ·unfold wpOpIn;rw[ho];simp only;have hg0:g=none:=by rw[hLi]at hgn;exact hgn
    subst hg0;have hw:=qvU (ops:=ops) (o:=o) (b:=true) (x:=x) hI.fok hg rfl
    rw[if_pos hw];have hx2:(L.getD i default).op=x:=by rw[hLi]
    rw[hx2]at hev hadd;have hid2:id0<Hc.length:=by rw[hD.h0];exact hid
    have hev2:qaa E (rd E fr) Hc (if x.adds then id0 else Hc.length) x=some (v,Hn):=by
     cases ha:x.adds with
     |true=>exact hev
     |false=>rw[<-hev];exact qpf ha _ _
    refine qt0 hO hN hI.gok hI.swf hI.hB hI.hok hI.fok hnd hyok (zzL hyb hI.base) hx ?_ hev2 ?_
    ·intro ha;rw[if_pos ha];have h0:i=0:=by
      rcases Nat.eq_zero_or_pos i with h|h
      ·exact h
      ·rw[hadd h]at ha;cases ha
     subst h0;exact⟨hpend hun,hid2⟩
    ·intro u w' S' β' e1 e2 e3 e4 e5 e6 e7;have hlb1:Lb base β β':=by
      intro o' ho';have hb:base<=Hc.length:=hI.base
      refine⟨e4 o',λhp=>e7 o' (Nat.lt_of_lt_of_le ho' hb) ?_ hp⟩
      split
      ·omega
      ·omega
     refine ih (listed.setIfInBounds i true) (a.put o.dst u) w' S' β' (qcr fr o.dst v) Hn hsz' hcl' hcnt' (hinv e1 e2 e3 e4 e5 e6 hlb1) ?_ ?_ (he.trans e1) (hlb.trans hlb1)
     ·rw[<-hdo];exact hD2
     ·intro hl0;rw[hset]at hl0;simp only[zzD,beq_eq_false_iff_ne]at hl0;refine e7 _ hid2 ?_ (hpend hl0.1);split
      ·rename_i ha;exact absurd (hadd (by omega)) (by rw[ha];decide)
      ·omega
   ·exfalso
    have hk:=qp2 hL hlit hiL
    rw[hbad]at hk;generalize hq:(⟨o.dst,.bad,none⟩:Ao)=q at hk;have hq2:=congrArg Ao.op hq
    cases hk with
    |mk=>cases hq2
    |ag t x k hx _ _=>
     have hq2:IOp.bad=x:=hq2
     subst hq2;cases hx
    |ms=>cases hq2
    |mv=>cases hq2
def qJH{L:CF Ao}{bf:Cy}(hlit:qcQ L bf=true):∀o∈L,o.op≠.bad/\∀x y,o.op≠.dfr x y:=by
 intro o ho;obtain⟨t0,r0,hL⟩:∃t0 r0,L=⟨some t0,.Bz,none⟩::r0:=by
  have h:=hlit
  unfold qcQ at h;split at h
  ·rename_i t0 r0;exact⟨t0,r0,rfl⟩
  ·cases h
 obtain⟨j,hj,e⟩:=zzO ho;have hk:=qp2 hL hlit hj
 rw[List.getD_eq_getElem?_getD,zze hj,zzA,e]at hk;cases hk with
 |mk=>exact⟨(λh=>by cases h),(λx y h=>by cases h)⟩
 |ag t x k hx _ _=>exact⟨(λh=>by have h:x=.bad:=h;subst h;cases hx),(λy z h=>by have h:x=.dfr y z:=h;subst h;cases hx)⟩
 |ms=>exact⟨(λh=>by cases h),(λx y h=>by cases h)⟩
 |mv=>exact⟨(λh=>by cases h),(λx y h=>by cases h)⟩
def qPT(hO:OrOK P C N E)(hN:NOK P N C E.G)(hng:nt<=gh){id:Nat}{ops:Array Oper}{s s':St}{a:Act}{w:CL}{S:qac}{β:Pl}{Q:Exit->Act->CL->Prop}(hnof:∀o∈ops.toList,qbG o.op=false)(hdst:∀o∈ops.toList,∀d,o.dst=some d->d<nt)
  (hok:qje ops.toList (ops.toList.map (qaq P N ops))=true) (hlit:qcQ (ops.toList.map (qaq P N ops)) (bef ops.toList [])=true) (he:qaM E (ops.toList.map (qaq P N ops)) s.H.length ⟨s.fr,s.H++List.replicate (qao (ops.toList.map (qaq P N ops))) none⟩=some s') (hI:Inv P N C E B base nt s a w S β)
  (hQ:∀a' w' S' β',Inv P N C E B base nt s' a' w' S' β'->Ext B w S w' S'->Lb base β β'->Q .normal a' w'):(Code.region id ops true).wpIn (FR ro) nf P Q a w:=by
 refine wpIn_region_any hN.mixed ?_;have hd:(w.drew:CL)={ w with drawn:=w.drawn+1 }:=rfl
 rw[<-hd];obtain⟨t0,r0,hL⟩:∃t0 r0,ops.toList.map (qaq P N ops)=⟨some t0,.Bz,none⟩::r0:=by
  have h:=hlit
  unfold qcQ at h;split at h
  ·rename_i t0 r0 e;exact⟨t0,r0,e⟩
  ·cases h
 have hno:∀j,(Array.replicate ops.size false).getD j false=false:=λj=>by
  simp[zzx,Array.getElem?_replicate];split<;>rfl
 have hna:1<=qao (ops.toList.map (qaq P N ops)):=by
  rw[hL];simp only[qao,IOp.adds,if_true];omega
 have hid:s.H.length<(s.H++List.replicate (qao (ops.toList.map (qaq P N ops))) none).length:=by
  simp only[zzp,List.length_replicate];omega
 have hp:0<(ops.toList.map (qaq P N ops)).length:=by rw[hL];simp
 have D0:Desc (ops.toList.map (qaq P N ops)) s.H.length s.fr (s.H++List.replicate (qao (ops.toList.map (qaq P N ops))) none) (λ_=>false) s.fr (s.H++List.replicate (qao (ops.toList.map (qaq P N ops))) none):=
  ⟨λ_ _ h=>by (cases h),λ_ _=>rfl,rfl,λ_ _=>rfl,λ_=>⟨rfl,λ_ _ h=>by (cases h)⟩,λh=>by (cases h)⟩
 have Ds:=qAh hL hlit hid (fr0:=s.fr) _ 0 s.H.length s.fr _ s' (Nat.zero_add _) (qkJ (λj _=>by simp) hp D0) (λ_=>rfl) (by rw[List.drop_zero];exact he)
 obtain⟨yb,hyb,hyok⟩:=hI.yok;have hg:=qno hI.hok (qao (ops.toList.map (qaq P N ops)))
 refine qJG (B:=B) (base:=base) (nt:=nt) (id0:=s.H.length) (fr0:=s.fr) (H0:=s.H++List.replicate (qao (ops.toList.map (qaq P N ops))) none) (w0:=w) (S0:=S) (β0:=β) hO hN hng hnof rfl hdst hok hL hlit hid hI.base ?_ ops.size (Array.replicate ops.size false) a w.drew S β s.fr (s.H++List.replicate (qao (ops.toList.map (qaq P N ops))) none) (by simp) ?_ ?_ ?_ ?_ ?_ (qbE (B:=B)) (Lb.refl _ _)
 ·intro a' w' S' β' fr H hI' D e1 e2;refine hQ a' w' S' β' ?_ e1 e2;obtain⟨es,b1,b2⟩:=D.h3 rfl;obtain⟨es',b3,b4⟩:=Ds.h3 rfl;have hpe:es.Perm es':=b2.trans b4.symm
  have hob:∀o,o≠s.H.length->s'.H.obj o=H.obj o:=λo ho=>(Ds.h1 o ho).trans (D.h1 o ho).symm
  have hlen:s'.H.length=H.length:=Ds.h0.trans D.h0.symm
  have eqf:∀t,s'.fr.get t=fr.get t:=by
   intro t;by_cases h:∃j,j<(ops.toList.map (qaq P N ops)).length/\((ops.toList.map (qaq P N ops)).getD j default).dst=some t
   ·obtain⟨j,hj,ht⟩:=h;rw[D.f1 j hj rfl t ht,Ds.f1 j hj rfl t ht]
   ·rw[D.f2 t λj hj _ ht=>h ⟨j,hj,ht⟩,Ds.f2 t λj hj _ ht=>h ⟨j,hj,ht⟩]
  refine⟨hI'.swf,hI'.gok,hI'.hB,⟨?_,?_,?_,hI'.hok.inj,?_,?_,hI'.hok.spi⟩,?_,hI'.size,hI'.defers.frame (λt _=>eqf t),hI'.yok,by rw[hlen];exact hI'.base⟩
  ·intro o blk b k h;by_cases ho:o=s.H.length
   ·subst ho;obtain⟨h1,x,cells,e,h2,-,-,h3⟩:=hI'.hok.live _ blk b k h;rw[b1]at h2;cases h2;exact h3.elim
   ·rw[hob o ho];exact hI'.hok.live o blk b k h
  ·intro o h;by_cases ho:o=s.H.length
   ·subst ho
    have:=hI'.hok.dead _ h
    rw[b1]at this;cases this
   ·rw[hob o ho];exact hI'.hok.dead o h
  ·intro o h;by_cases ho:o=s.H.length
   ·subst ho;obtain⟨k,r,h2⟩:=hI'.hok.Bq _ h;rw[b1]at h2;cases h2
   ·rw[hob o ho];exact hI'.hok.Bq o h
  ·intro o h;rw[hlen]at h;exact hI'.hok.out o h
  ·intro o blk x h;by_cases ho:o=s.H.length
   ·subst ho;obtain⟨h1,y,h2,h3⟩:=hI'.hok.sp _ blk x h;rw[b1]at h2;cases h2;refine⟨h1,_,b3,?_⟩;cases x with
    |map=>
     obtain⟨ms,clock,q1,q2⟩:=h3;exact⟨ms,clock,q1,q2.perm hpe⟩
    |iter=>exact h3.elim
    |loop r=>exact h3.elim
    |defer=>exact h3.elim
   ·rw[hob o ho];exact hI'.hok.sp o blk x h
  ·intro t;rw[eqf];exact hI'.fok t
 ·intro j hj hl;rw[hno]at hl;cases hl
 ·refine zzL (List.countP_le_length) ?_;simp
 ·refine⟨hI.swf.ext (qbE (B:=B)),hI.gok.ext (qbE (B:=B)),hI.hB,hg.drew,hI.fok.ext (qbE (B:=B)) (Later.refl _),hI.size,hI.defers.ext (qbE (B:=B)) (Later.refl _),⟨yb,hyb,hyok.later (qbE (B:=B)) (Lb.refl _ _)⟩,?_⟩
  have:=hI.base
  simp only[zzp];omega
 ·exact qkJ (λj _=>(hno j).symm) hp D0
 ·intro _;exact hI.hok.out _ (zzt _)
end
def qJu{P:CO}{n:Nat}{fn:Func}{tmps:Array CJ}{R:Ending->CL->Prop}:∀(ds:CF Deferred) (u:FrameMode) (w:CL) (fr:Frame) (cs:CF Frame),fr.mode=u->fr.defers=ds->fr.tmps=tmps->P.funcs[fr.fn]? = some fn->fr.kind=.deferred->
  LeavesInM Fence.wide n P fn tmps R ds u w->∃e w' fr',R e w'/\Comes P (lone fr cs w) (lone fr' cs w') e/\fr'.fn=fr.fn/\fr'.kind=.deferred/\fr'.going P w' e:=by
 intro ds;induction ds with
 |nil=>
  intro u w fr cs hu hd ht hf hk h;cases u with
  |run=>exact h.elim
  |returning=>
   obtain⟨v,h1,h2⟩:=h;exact⟨.returned v,w,fr,h2,Steps.refl _ _,rfl,hk,hu,hd,fn,hf,ht▸h1⟩
  |panicking c=>exact⟨.panicked c,w,fr,h,Steps.refl _ _,rfl,hk,hu,hd,fn,hf⟩
 |cons d ds ih=>
  intro u w fr cs hu hd ht hf hk h;obtain⟨hrun,h⟩:=h;subst hu;rcases h with ⟨r,w1,h1,h2,h3⟩|⟨-,fv,cap,f,args,h1,h2,-,h3⟩
  ·have hs:=step_collected (P:=P) (cs:=cs) hrun hd h1 h2
   obtain⟨e,w2,fr2,q1,q2,q3,q4,q5⟩:=ih fr.mode w1 { fr with defers:=[]++ds } cs rfl rfl ht hf hk h3
   exact⟨e,w2,fr2,q1,.of_steps (.one hs) q2,q3,q4,q5⟩
  ·have hs:=step_defer (P:=P) (cs:=cs) hrun hd h1 h2
   obtain⟨e,u1,w1,fr1,r1,r2,r3,-,r5⟩:=h3.2 { fr with defers:=ds } cs rfl (room_wide _)
   have r2:=comesIn_wide.1 r2
   cases e with
   |outgrown=>exact⟨.outgrown,w1,fr,r1,Outgrown.of_steps (.one hs) r2,rfl,hk,trivial⟩
   |returned v=>
    have h4:=step_going_returned (c:={ { fr with defers:=ds }with mode:=u1 }) (cs:=cs) r3 r5
    obtain⟨e,w2,fr2,q1,q2,q3,q4,q5⟩:=ih (settle u1) w1 { { { fr with defers:=ds }with mode:=u1 }with mode:=settle u1 } cs rfl rfl ht hf hk r1
    exact⟨e,w2,fr2,q1,.of_steps (.head hs (Steps.trans r2 (.one h4))) q2,q3,q4,q5⟩
   |panicked ch=>
    have h4:=step_going_panicked (c:={ { fr with defers:=ds }with mode:=u1 }) (cs:=cs) r5
    obtain⟨e,w2,fr2,q1,q2,q3,q4,q5⟩:=ih (raised u1 ch) w1 { { { fr with defers:=ds }with mode:=u1 }with mode:=raised u1 ch } cs rfl rfl ht hf hk r1
    exact⟨e,w2,fr2,q1,.of_steps (.head hs (Steps.trans r2 (.one h4))) q2,q3,q4,q5⟩
def qFk{P:CO}{n:Nat}{f:FuncId}{fn:Func}{c:Code}{args:Array CJ}{u:FrameMode}{w:CL}{R:Ending->CL->Prop}(hf:P.funcs[f]? = some fn)(hb:fn.body=some c)
  (h:c.wpIn Fence.wide n P (bodyPostM Fence.wide n P fn R) { tmps:=args++Array.replicate (fn.ntmps-args.size) undef,defers:=[] } w):CallsDIn Fence.wide n P f args u w λe u' w'=>u'=u/\R e w':=by
 refine⟨trivial,λc0 cs hu _=>?_⟩
 have hc:({ c0 with mode:=u }:Frame)=c0:=by subst hu;rfl
 let b:Frame:={ (default:Frame)with fn:=f,kind:=.deferred,roundOf:=none }
 have henter:Frame.enter P f args .deferred=b.atR { tmps:=args++Array.replicate (fn.ntmps-args.size) undef,defers:=[] } [.code c]:=by
  simp[Frame.enter,Frame.atR,hf,hb,b]
 obtain⟨e,a',w',hq,harr⟩:=h b [] (c0::cs) rfl trivial (room_wide _);rw[<-henter]at harr;have fin:∀(m:FrameMode) (fr:Frame),fr.mode=m->fr.defers=a'.defers->fr.tmps=a'.tmps->fr.fn=f->fr.kind=.deferred->Steps P (lone (Frame.enter P f args .deferred) (c0::cs) w) (lone fr (c0::cs) w')->LeavesInM Fence.wide n P fn a'.tmps R a'.defers m w'->
   ∃e u' w'' fr',(u'=u/\R e w'')/\ComesIn (Machine.fenced P Fence.wide) P (lone (Frame.enter P f args .deferred) (c0::cs) w) (lone fr' ({ c0 with mode:=u' }::cs) w'') e/\fr'.kind=.deferred/\fr'.fn=f/\fr'.going P w'' e:=by
  intro m fr g1 g2 g3 g4 g5 hs hl;obtain⟨e',w2,fr',q1,q2,q3,q4,q5⟩:=qJu a'.defers m w' fr (c0::cs) g1 g2 g3 (by rw[g4];exact hf) g5 hl
  exact⟨e',u,w2,fr',⟨rfl,q1⟩,(by rw[hc];exact comesIn_wide.2 (.of_steps hs q2)),q4,q3.trans g4,q5⟩
 cases e with
 |normal=>exact fin .returning { b.atR a' []with mode:=.returning } rfl rfl rfl rfl rfl (Steps.trans (stepsIn_wide.1 harr) (.one (stepR_end rfl))) hq
 |ret=>
  obtain⟨todo,hs⟩:=harr.1 rfl;exact fin .returning { b.atR a' todo with mode:=.returning } rfl rfl rfl rfl rfl (stepsIn_wide.1 hs) hq
 |panic ch=>
  obtain⟨todo,hs⟩:=harr;exact fin (.panicking ch) { b.atR a' todo with mode:=.panicking ch } rfl rfl rfl rfl rfl (stepsIn_wide.1 hs) hq
 |exit id=>exact hq.elim
 |goto l=>exact hq.elim
 |outgrown=>
  refine⟨.outgrown,u,w',b,⟨rfl,hq⟩,?_,rfl,rfl,trivial⟩;exact harr.resolve_left (by simp[b])
section
variable {P:CO}{N:Names}{C:Cx}{w:CL}{S:qac}{β:Pl}{B:Nat}{H:CP}{a:Act}{E:Env}
def qyP(hH:HOK C B w S β H)(hS:Swf w S){o blk:Nat}{x:Sp}(hb:β o=.sp blk x)(ob:Go.Obj) :
  Ext B w S (w.putObj blk ob) S/\HOK C B (w.putObj blk ob) S (upd β o .dead) (H.put o none)/\Later β (upd β o .dead):=by
 obtain⟨g1,y,g2,g3⟩:=hH.sp o blk x hb;obtain⟨o0,g4,g5⟩:=g3.obj;have hext:=qug hS g1 g4 g5 ob
 obtain⟨k1,k2⟩:=qsT hH o (qio g2);refine⟨hext,k1.ext hext ?_ (λ_ _ _ _ _ _ h=>h) ?_,k2 (by rw[hb];simp)⟩
 ·intro o' blk' base k h;obtain⟨-,x0,c0,e0,-,-,h4,-⟩:=k1.live o' blk' base k h;refine World.putObj_heap_other (λhq=>?_)
  subst hq;rw[g4]at h4;cases h4
  exact g5 _ _ _ rfl
 ·intro o' blk' x' h;refine World.putObj_heap_other (λhq=>?_)
  subst hq;by_cases ho:o'=o
  ·subst ho;rw[qaZ]at h;cases h
  ·rw[qaD ho]at h;exact ho (hH.spi _ _ _ _ _ h hb)
def qn0(H:CP)(base:Nat):∀(n:Nat) (acc todo:Cy),acc.Nodup->(∀o∈acc,base<=o)->(qap H base n acc todo).Nodup/\∀o∈qap H base n acc todo,base<=o
 |0,acc,_,h1,h2=>⟨h1,h2⟩
 |_+1,acc,[],h1,h2=>⟨h1,h2⟩
 |n+1,acc,o::todo,h1,h2=>by
  simp only[qap];split
  ·exact qn0 H base n acc todo h1 h2
  ·split
   ·exact qn0 H base n acc todo h1 h2
   ·rename_i hlt hc;refine qn0 H base n _ _ ?_ ?_
    ·rw[List.nodup_append];refine⟨h1,by simp,?_⟩
     intro x hx y hy;simp at hy;subst hy;rintro rfl;simp at hc;exact hc hx
    ·intro x hx;rcases zzB.1 hx with hx|hx
     ·exact h2 x hx
     ·simp at hx;omega
def gcβ(β:Pl)(base:Nat)(ids:Cy):Pl:=λn=>if n<base then β n else match ids[n-base]? with|some o=>β o|none=>.pend
def qqq{base:Nat}{ids:Cy}{o o':Nat}(h:qaG base ids o=some o'):gcβ β base ids o'=β o:=by
 by_cases hlt:o<base
 ·simp only[qaG,hlt,if_true,zzb]at h;subst h;simp[gcβ,hlt]
 ·simp only[qaG,hlt,if_false,Option.map_eq_some_iff]at h;obtain⟨i,hi,rfl⟩:=h;have:ids[i]? = some o:=by
   rw[List.idxOf?_eq_some_iff]at hi;obtain⟨h1,h2,-⟩:=hi;rw[zze h1];simpa using h2
  have e:¬(base+i<base):=by omega
  simp only[gcβ,e,if_false,Nat.add_sub_cancel_left,this]
def PV.BP(ρ:Nat->CE Nat):∀cs:Cu,(PV.Bt ρ cs).length=cs.length
 |[]=>rfl
 |v::vs=>by simp[PV.Bt,PV.BP ρ vs]
def PV.Ck(ρ:Nat->CE Nat):∀(cs:Cu) (j:Nat) (hj:j<cs.length) (hj':j<(PV.Bt ρ cs).length),(PV.Bt ρ cs)[j]=(cs[j]).ren ρ
 |[],j,hj,_=>absurd hj (zzm _)
 |v::vs,0,_,_=>rfl
 |v::vs,j+1,hj,hj'=>by
  simp only[PV.Bt,zzG];exact PV.Ck ρ vs j _ _
def qqA{β':Pl}{ρ:Nat->CE Nat}(hρ:∀o o',ρ o=some o'->β' o'=β o){x:PV}{v:CJ}(h:Ae C w S β x v):Ae C w S β' (x.ren ρ) v:=by
 induction h with
 |u v=>exact .u v
 |d x v h=>exact .d x v h
 |a cs vs h1 h2 _ ih=>
  refine .a _ vs (by rw[PV.BP];exact h1) h2 ?_
  intro j hj hj';rw[PV.BP]at hj;rw[PV.Ck ρ cs j hj];exact ih j hj hj'
 |t cs vs h1 _ ih=>
  refine .t _ vs (by rw[PV.BP];exact h1) ?_
  intro j hj hj';rw[PV.BP]at hj;rw[PV.Ck ρ cs j hj];exact ih j hj hj'
 |r o k off len t v h0 h=>
  simp only[PV.ren];cases ho:ρ o with
  |none=>exact .u v
  |some o'=>
   refine .r _ _ _ _ _ _ h0 ?_;unfold RelRf at *
   rw[hρ o o' ho];exact h
 |p o i c v h0 h=>
  simp only[PV.ren];cases ho:ρ o with
  |none=>exact .u v
  |some o'=>
   refine .p _ _ _ _ h0 ?_;unfold RelPt at *
   rw[hρ o o' ho];exact h
 |q x k c blk off f h1 h2=>exact .q x k c blk off f h1 h2
 |f n cs vs h1 _ ih=>
  refine .f n _ vs (by rw[PV.BP];exact h1) ?_
  intro j hj hj';rw[PV.BP]at hj;rw[PV.Ck ρ cs j hj];exact ih j hj hj'
 |h o v h0 h=>
  simp only[PV.ren];cases ho:ρ o with
  |none=>exact .u v
  |some o'=>
   refine .h _ _ h0 ?_;unfold RelH at *
   rw[hρ o o' ho];exact h
 |g x v=>exact .g _ v
 |m n cs vs h1 _ ih=>
  refine .m n _ vs (by rw[PV.BP];exact h1) ?_
  intro j hj hj';rw[PV.BP]at hj;rw[PV.Ck ρ cs j hj];exact ih j hj hj'
 |w t x v _ ih=>exact .w t _ v ih
def qsF{ρ:Nat->CE Nat}{base:Nat}{ids:Cy}(hb:base<=H.length):(gcH ρ H base ids).length=base+ids.length:=by
 simp[gcH];omega
def qyp{ρ:Nat->CE Nat}{base:Nat}{ids:Cy}(hb:base<=H.length)(n:Nat):Heap.obj (gcH ρ H base ids) n=if n<base then (H.obj n).map (·.ren ρ)else match ids[n-base]? with|some o=>(H.obj o).map (·.ren ρ)|none=>none:=by
 show (match (gcH ρ H base ids)[n]? with|some x=>x|none=>none)=_
 by_cases hn:n<base
 ·have e:(gcH ρ H base ids)[n]? = (H[n]?).map (·.map (·.ren ρ)):=by
   unfold gcH;rw[List.getElem?_append_left (by simp;omega),zzj,List.getElem?_take,if_pos hn]
  rw[e,if_pos hn];unfold Heap.obj;cases H[n]? with
  |none=>rfl
  |some x=>cases x<;>rfl
 ·have e:(gcH ρ H base ids)[n]? = (ids[n-base]?).map λo=>(H.obj o).map (·.ren ρ):=by
   unfold gcH;have hl:(List.map (Option.map (·.ren ρ)) (List.take base H)).length=base:=by simp;omega
   rw[List.getElem?_append_right (by rw[hl];omega),hl,zzj]
  rw[e,if_neg hn];cases ids[n-base]? <;> rfl
def OCells.ren{β':Pl}{ρ:Nat->CE Nat}(hρ:∀o o',ρ o=some o'->β' o'=β o){cells:Array CJ}{blk base:Nat}{x:Obj}(h:OCells C w S β cells blk base x):OCells C w S β' cells blk base (x.ren ρ):=by
 cases x with
 |box k v=>
  obtain⟨h0,f,h1,h2,h3⟩:=h;exact⟨h0,f,h1,qqA hρ h2,h3⟩
 |sl k ro es=>exact h
 |mp es=>exact h
 |si s p=>exact h
 |lp st j=>exact h
 |df=>exact h
def Obj.ren_shape(ρ:Nat->CE Nat)(x:Obj):(x.ren ρ).shape=x.shape:=by cases x<;>rfl
def SpOK.ren{blk:Nat}{x:Sp}{y:Obj}(h:SpOK w S blk x y)(ρ:Nat->CE Nat):SpOK w S blk x (y.ren ρ):=by
 cases y with
 |box k v=>cases x<;>exact h
 |_=>exact h
def qyM(hH:HOK C B w S β H){base:Nat}(hb:base<=H.length){ids:Cy}(hn:ids.Nodup)(hi:∀o∈ids,base<=o):HOK C B w S (gcβ β base ids) (gcH (qaG base ids) H base ids):=by
 have hρ:∀o o',qaG base ids o=some o'->gcβ β base ids o'=β o:=λo o' h=>qqq h
 have from_:∀n,gcβ β base ids n≠.pend->∃o,gcβ β base ids n=β o/\Heap.obj (gcH (qaG base ids) H base ids) n=(H.obj o).map (·.ren (qaG base ids))/\((n<base/\o=n)\/(base<=n/\ids[n-base]? = some o)):=by
  intro n h;by_cases hlt:n<base
  ·exact⟨n,by simp[gcβ,hlt],by rw[qyp hb,if_pos hlt],.inl ⟨hlt,rfl⟩⟩
  ·cases ho:ids[n-base]? with
   |none=>simp[gcβ,hlt,ho]at h
   |some o=>exact⟨o,by simp[gcβ,hlt,ho],by rw[qyp hb,if_neg hlt,ho],.inr ⟨by omega,rfl⟩⟩
 have same:∀n n' o o',o=o'->((n<base/\o=n)\/(base<=n/\ids[n-base]? = some o))->((n'<base/\o'=n')\/(base<=n'/\ids[n'-base]? = some o'))->n=n':=by
  intro n n' o o' hoo h3 h3';subst hoo;rcases h3 with ⟨q1,rfl⟩|⟨q1,q2⟩
  ·rcases h3' with ⟨p1,rfl⟩|⟨p1,p2⟩
   ·rfl
   ·have:=hi _ (List.mem_of_getElem? p2);omega
  ·rcases h3' with ⟨p1,rfl⟩|⟨p1,p2⟩
   ·have:=hi _ (List.mem_of_getElem? q2);omega
   ·obtain⟨i1,i2⟩:=zzk.1 q2;obtain⟨j1,j2⟩:=zzk.1 p2;have hpw:=List.pairwise_iff_getElem.1 hn
    rcases Nat.lt_trichotomy (n-base) (n'-base)with hlt|heq|hgt
    ·exact absurd (i2.trans j2.symm) (hpw _ _ i1 j1 hlt)
    ·omega
    ·exact absurd (j2.trans i2.symm) (hpw _ _ j1 i1 hgt)
 refine⟨?_,?_,?_,?_,?_,?_,?_⟩
 ·intro n blk b k h;obtain⟨o,h1,h2,-⟩:=from_ n (by rw[h];simp)
  rw[h1]at h;obtain⟨a1,x,cells,e,a2,a3,a4,a5⟩:=hH.live o blk b k h;exact⟨a1,x.ren (qaG base ids),cells,e,by rw[h2,a2];rfl,by rw[Obj.ren_shape];exact a3,a4,a5.ren hρ⟩
 ·intro n h;obtain⟨o,h1,h2,-⟩:=from_ n (by rw[h];simp)
  rw[h1]at h;rw[h2,hH.dead o h];rfl
 ·intro n h;obtain⟨o,h1,h2,-⟩:=from_ n (by rw[h];simp)
  rw[h1]at h;obtain⟨k,ro,h3⟩:=hH.Bq o h;exact⟨k,ro,by rw[h2,h3];rfl⟩
 ·intro n n' blk b k b' k' h h';obtain⟨o,h1,-,h3⟩:=from_ n (by rw[h];simp)
  obtain⟨o',h1',-,h3'⟩:=from_ n' (by rw[h'];simp)
  rw[h1]at h;rw[h1']at h';exact same n n' o o' (hH.inj o o' blk b k b' k' h h') h3 h3'
 ·intro n h;rw[qsF hb]at h;have h1:¬n<base:=by omega
  have h2:ids[n-base]? = none:=by rw[List.getElem?_eq_none_iff];omega
  simp[gcβ,h1,h2]
 ·intro n blk x h;obtain⟨o,h1,h2,-⟩:=from_ n (by rw[h];simp)
  rw[h1]at h;obtain⟨a1,y,a2,a3⟩:=hH.sp o blk x h;exact⟨a1,y.ren (qaG base ids),by rw[h2,a2];rfl,a3.ren _⟩
 ·intro n n' blk x x' h h';obtain⟨o,h1,-,h3⟩:=from_ n (by rw[h];simp)
  obtain⟨o',h1',-,h3'⟩:=from_ n' (by rw[h'];simp)
  rw[h1]at h;rw[h1']at h';exact same n n' o o' (hH.spi o o' blk x x' h h') h3 h3'
def qtt(base:Nat)(ids:Cy):Lb base β (gcβ β base ids):=λo ho=>by
 have:gcβ β base ids o=β o:=by simp[gcβ,ho]
 exact⟨.inl this,λh=>this.trans h⟩
def PV.ren_ne{ρ:Nat->CE Nat}{x:PV}(h:x.ren ρ≠.u):x≠.u:=λhx=>h (by subst hx;rfl)
def DRel.ren{β':Pl}{ρ:Nat->CE Nat}(hρ:∀o o',ρ o=some o'->β' o'=β o){x:PV}{d:Deferred}(h:DRel C w S β x d):DRel C w S β' (x.ren ρ) d:=by
 unfold DRel at h;split at h
 ·rename_i o;obtain⟨r,h1,h2⟩:=h;simp only[PV.ren];cases ho:ρ o with
  |none=>trivial
  |some o'=>exact⟨r,h1,by rw[hρ o o' ho];exact h2⟩
 ·rename_i n caps;obtain⟨us,h1,h2,h3⟩:=h;refine⟨us,h1,by rw[PV.BP];exact h2,λj hj hj'=>?_⟩
  rw[PV.Ck ρ caps j (by rw[PV.BP]at hj;exact hj)]
  exact qqA hρ (h3 j _ hj')
 ·trivial
 ·exact h.elim
def DfRel.ren{β':Pl}{ρ:Nat->CE Nat}(hρ:∀o o',ρ o=some o'->β' o'=β o){fr:Fr}{ds:CF Deferred}(h:DfRel C w S β fr ds):DfRel C w S β' (fr.ren ρ) ds:=by
 obtain⟨sl,h1,h2,h3,h4,h5⟩:=h;refine⟨sl,h1,h2,λt ht hn=>h3 t ht (PV.ren_ne (by rw[qpy]at hn;exact hn)),h4,λj hj hj'=>?_⟩
 rw[qpy];exact (h5 j hj hj').ren hρ
def qGL{base nt:Nat}{s:St}(hI:Inv P N C E B base nt s a w S β)(live:Cy):∃β',Inv P N C E B base nt (gc live base s) a w S β'/\Lb base β β':=by
 obtain⟨h1,h2⟩:=qn0 s.H base 1000 [] (qam (Fr.keep live s.fr)++qae (s.H.take base)) (by simp) (by simp)
 obtain⟨yb,hyb,hyok⟩:=hI.yok;refine⟨_,⟨hI.swf,hI.gok,hI.hB,qyM hI.hok hI.base h1 h2,?_,hI.size,?_,⟨yb,hyb,hyok.later (Ext.refl B w S) ((qtt _ _).mono hyb)⟩,?_⟩,qtt _ _⟩
 ·intro t;simp only[gc];rw[qpy];refine qqA (λo o' h=>qqq h) ?_
  rcases qGQ live t s.fr with h|h
  ·rw[h];exact hI.fok t
  ·rw[h];exact .u _
 ·simp only[gc];exact (hI.defers.frame (fr':=Fr.keep live s.fr) (λt ht=>qGR live ht s.fr)).ren (λo o' h=>qqq h)
 ·simp only[gc];rw[qsF hI.base];omega
def qyq{v:PV}{u:CJ}(hH:HOK C B w S β H)(hv:Ae C w S β v u){base:Nat}(hb:base<=H.length):∃β',HOK C B w S β' (gcV base v H).2/\Ae C w S β' (gcV base v H).1 u/\Lb base β β'/\base<=(gcV base v H).2.length:=by
 obtain⟨h1,h2⟩:=qn0 H base 1000 [] (v.refs++qae (H.take base)) (by simp) (by simp)
 refine⟨_,qyM hH hb h1 h2,qqA (λo o' h=>qqq h) hv,qtt _ _,?_⟩
 simp only[gcV];rw[qsF hb];omega
end
def qjf(nt:Nat)(inr:CG)(o:Ao):CG:=match o.op with
 |.dfr _ _=>!inr
 |_=>match o.dst with|some d=>decide (d<nt)|none=>true
def qbP(nt:Nat)(inr:CG):PC->CG
 |.reg ops _=>ops.all (qjf nt inr)
 |.A7 ops _ _=>ops.all (qjf nt inr)
 |.seq x y=>qbP nt inr x&&qbP nt inr y
 |.cond _ x y=>qbP nt inr x&&qbP nt inr y
 |.block _ x=>qbP nt inr x
 |.loop _ x=>qbP nt inr x
 |.rng _ g ps _ a x=>!inr&&Nat.ble gh g&&ps.all (λp=>decide (p<nt))&&qbP nt true a&&qbP nt true x
 |_=>true
def qph:Ex->Exit
 |.norm=>.normal
 |.exit id=>.exit id
 |.ret=>.ret
def qsN(l:Cy){t:Nat}(h:gh<=t):∀fr:Fr,(fr.only l).get t=.u
 |[]=>rfl
 | (j,x)::r=>by
  simp only[Fr.only];split
  ·rename_i hc;simp only[zzf,Nat.blt_eq]at hc;simp only[Fr.get];rw[if_neg (by omega)]
   exact qsN l h r
  ·exact qsN l h r
def qsM(l:Cy)(t:Nat):∀fr:Fr,(fr.only l).get t=if l.contains t&&Nat.blt t gh then fr.get t else .u
 |[]=>by simp[Fr.only,Fr.get]
 | (j,x)::r=>by
  simp only[Fr.only];split
  ·rename_i hc;simp only[Fr.get];split
   ·rename_i hj;subst hj;rw[if_pos hc]
   ·exact qsM l t r
  ·rename_i hc;rw[qsM l t r];by_cases hj:j=t
   ·subst hj;rw[if_neg hc,if_neg hc]
   ·simp[Fr.get,hj]
def qGS(l:Cy)(t:Nat)(fr:Fr):(fr.only l).get t=fr.get t\/(fr.only l).get t=.u:=by
 rw[qsM];split
 ·exact .inl rfl
 ·exact .inr rfl
def qyD{t:Nat}:∀(ps:Cy) (vs:Cu) (fr:Fr),t∉ps->(qdx fr ps vs).get t=fr.get t
 |[],vs,fr,_=>by cases vs<;>rfl
 |p::ps,[],fr,_=>rfl
 |p::ps,v::vs,fr,h=>by
  simp only[qdx];rw[qyD ps vs _ (λhm=>h (zzi _ hm)),qdm,if_neg (λhq=>h (by rw[hq];exact zzr ..))]
section
variable {P:CO}{N:Names}{C:Cx}{w:CL}{S:qac}{β:Pl}{B:Nat}{H:CP}{a:Act}{E:Env}
def qyd:∀(ps:Cy) (args:Cu) (us:CF CJ) (fr:Fr) (tmps:Array CJ),args.length=us.length->(∀p∈ps,p<tmps.size)->(∀t,Ae C w S β (fr.get t) (tmps.getD t undef))->
  (∀j (h:j<args.length) (h':j<us.length),Ae C w S β args[j] us[j])->∀t,Ae C w S β ((qdx fr ps args).get t) (((ps.zip us).foldl (λtmps (x:Nat×CJ)=>tmps.setIfInBounds x.1 x.2) tmps).getD t undef)
 |[],args,us,fr,tmps,_,_,hf,_,t=>by cases args<;>exact hf t
 |p::ps,[],us,fr,tmps,hl,_,hf,_,t=>by
  have:us=[]:=by cases us with|nil=>rfl|cons _ _=>simp at hl
  subst this;exact hf t
 |p::ps,v::args,[],fr,tmps,hl,_,_,_,t=>by simp at hl
 |p::ps,v::args,u::us,fr,tmps,hl,hp,hf,hr,t=>by
  simp only[qdx,List.zip_cons_cons,List.foldl_cons];have hsz:p<tmps.size:=hp p (zzr ..)
  refine qyd ps args us _ _ (by simpa using hl) (λq hq=>by simpa using hp q (zzi _ hq)) ?_ (λj hj hj'=>hr (j+1) (by simpa using hj) (by simpa using hj')) t
  intro t';rw[qdm];split
  ·rename_i ht;subst ht
   have:=hr 0 (by simp) (by simp)
   simpa[zzx,hsz]using this
  ·rename_i ht
   have:=hf t'
   simp only[zzx]at this⊢;rw[Array.getElem?_setIfInBounds_ne (λe=>ht e.symm)]
   exact this
def qCu:∀(l:CF (Nat×CJ)) (tmps:Array CJ),(l.foldl (λtmps (x:Nat×CJ)=>tmps.setIfInBounds x.1 x.2) tmps).size=tmps.size
 |[],_=>rfl
 |x::l,tmps=>by rw[List.foldl_cons,qCu l];simp
def qLd(H:CP)(x y:CE Obj):(Heap.put (Heap.put (H++List.replicate 2 none) (H.length+1) y) H.length x)=H++[x,y]:=by
 simp[Heap.put,List.replicate]
def qDH(ps:Array Tmp)(us:CF CJ)(tmps:Array CJ):(ps.zip us.toArray).foldl (λtmps (t,a)=>tmps.setIfInBounds t a) tmps=(ps.toList.zip us).foldl (λtmps (x:Nat×CJ)=>tmps.setIfInBounds x.1 x.2) tmps:=by
 rw[<-Array.foldl_toList];simp only[Array.toList_zip]
def qts{b:Nat}{β':Pl}(h:Lb b β β')(ho:∀o,b<=o->β o=.pend):Later β β':=λo=>by
 rcases Nat.lt_or_ge o b with h1|h1
 ·exact (h o h1).1
 ·exact .inr (.inr (ho o h1))
def CS(P:CO)(N:Names)(C:Cx)(E:Env)(B nt n:Nat)(pc:PC)(c:Code):Prop:=
 ∀(base:Nat) (ro:CE Nat) (nf:Nat),qbP nt ro.isSome pc=true->∀(s s':St) (ex:Ex) (a:Act) (w:CL) (S:qac) (β:Pl) (Q:Exit->Act->CL->Prop),
  qah E (lpN n) base pc s=some (ex,s')->Inv P N C E B base nt s a w S β->(∀a' w' S' β',Inv P N C E B base nt s' a' w' S' β'->Ext B w S w' S'->Lb base β β'->Q (qph ex) a' w')->c.wpIn (FR ro) nf P Q a w
def qqL{β':Pl}{b o blk:Nat}{x:Sp}{y:Obj}{H':CP}{w':CL}{S':qac}(hb:β o=.sp blk x)(hl:β' o=β o\/β' o=.dead\/β o=.pend)(hH:HOK C b w' S' β' H')(hy:H'.obj o=some y):β' o=.sp blk x/\SpOK w' S' blk x y:=by
 have h1:β' o=.sp blk x:=by
  rcases hl with h|h|h
  ·rw[h];exact hb
  ·rw[hH.dead o h]at hy;cases hy
  ·rw[hb]at h;cases h
 obtain⟨-,y',h2,h3⟩:=hH.sp o blk x h1;rw[hy]at h2;cases h2
 exact⟨h1,h3⟩
def qP0{nt n:Nat}(hng:nt<=gh){x y:PC}{ca cx:Code}(hA:CS P N C E B nt n x ca)(hX:CS P N C E B nt n y cx){ps:Array Tmp}(hps:∀p∈ps.toList,p<nt)(hdx:qbP nt true x=true)(hdy:qbP nt true y=true){base:Nat}{s:St}
  (hI:Inv P N C E B base nt s a w S β) {w2:CL} (hext:Ext B w S w2 S) {β2:Pl} {l:Nat} {rec:Loop} {bo:BO} (hβ2:β2=upd (upd β (s.H.length+1) bo) s.H.length (.sp l (.loop rec)))
  (h1:rec.tmps=a.tmps) (h2:rec.params=ps) (h3:rec.assign=ca) (h4:rec.body=cx) (live:Cy) :
  YOK P C N E.G (qda (λb s=>qah E (lpN n) b x s) (λb s=>qah E (lpN n) b y s) (Fr.only live s.fr) s.H.length ps.toList E.yld) B w2 S β2 (s.H.length+2):=by
 have hb2:β2 s.H.length=.sp l (.loop rec):=by rw[hβ2,qaZ]
 have hlow:∀o,o<s.H.length->β2 o=β o:=λo ho=>by rw[hβ2,qaD (by omega),qaD (by omega)]
 obtain⟨yb,hyb,hyok⟩:=hI.yok;have hbs:=hI.base
 have lb02:Lb s.H.length β β2:=λo ho=>⟨.inl (hlow o ho),λh=>by rw[hlow o ho];exact h⟩
 intro o' args H r H' h;unfold qda at h;split at h
 ·rename_i ho;subst ho;split at h
  ·rename_i hal;split at h
   ·rename_i hobj;refine⟨hobj,?_⟩;intro w3 S3 β3 us blk r0 e3 l3 hl3 hB3 hS3 hG3 hH3 hb3 hlen hrel F nf hF hd ha;obtain⟨hbo,hsp⟩:=qqL (y:=.lp 0 none) hb2 (l3 _ (by omega)).1 hH3 hobj
    rw[hb3]at hbo;cases hbo;have hsp:w3.heap[l]? = some (.loop { rec with state:=.ready,pending:=none }):=hsp
    refine⟨_,hsp,?_,?_⟩
    ·show us.length=rec.params.size
     rw[h2,<-hlen,hal,Array.length_toList]
    have hFR:F.inRound l=FR (some l):=by
     obtain⟨fn,dp,al,rd⟩:=F;simp only at hF hd ha;have:fn=λ_=>True:=funext λf=>propext ⟨λ_=>trivial,λ_=>hF f⟩
     subst this hd ha;rfl
    refine roundIn_of_wpIn (hF _) ?_;rw[hFR];split at h
    ·rename_i s1 hev1;split at h
     ·rename_i hobj1;split at h
      ·rename_i e s2 hev2;split at h
       ·rename_i hobj2;simp only[zzb]at h;have lb23:Lb s.H.length β β3:=lb02.trans (l3.mono (by omega))
        have e03:Ext B w S w3 S3:=hext.trans e3
        have lat3:Later β β3:=qts lb23 (λo ho=>hI.hok.out o ho)
        subst h2 h3 h4;have hlt:s.H.length<H.length:=by omega
        have hargs:args.length=us.length:=hlen
        have hfok:FOK C w3 S3 β3 (qdx (Fr.only live s.fr) rec.params.toList args) { tmps:=(rec.params.zip us.toArray).foldl (λtmps (t,a)=>tmps.setIfInBounds t a) rec.tmps,defers:=[] }:=by
         intro t;show Ae C w3 S3 β3 _ (Array.getD (Array.foldl _ _ _) t undef)
         rw[qDH];refine qyd _ args us _ rec.tmps hargs (λp hp=>?_) (λt=>?_) hrel t
         ·rw[h1,hI.size];exact hps p hp
         ·rw[h1];rcases qGS live t s.fr with h|h
          ·rw[h];exact (hI.fok t).ext e03 lat3
          ·rw[h];exact .u _
        refine hA H.length (some l) nf hdx _ s1 .norm _ w3 S3 β3 _ hev1 ⟨hS3,hG3,hB3,hH3,hfok,?_,?_,⟨yb,by omega,hyok.later e03 (lb23.mono (by omega))⟩,zzt _⟩ ?_
        ·show Array.size (Array.foldl _ _ _)=nt
         rw[qDH,qCu,h1];exact hI.size
        ·refine⟨[],List.nodup_nil,λt ht=>absurd ht (zzC),λt ht hne=>absurd ?_ hne,rfl,λj hj=>absurd hj (zzm _)⟩
         rw[qyD _ _ _ (λhm=>Nat.not_lt.2 (zzL hng ht) (hps t hm))]
         exact qsN live ht s.fr
        intro a1 w4 S4 β4 hI4 e4 l4;show ∃w5,_
        obtain⟨hb4,hsp4⟩:=qqL (y:=.lp 0 none) hb3 (l4 _ hlt).1 hI4.hok hobj1;have hsp4:w4.heap[l]? = some (.loop { rec with state:=.ready,pending:=none }):=hsp4
        have hl4:l<w4.heap.size:=(Array.getElem?_eq_some_iff.1 hsp4).1
        refine⟨_,run_beginRound hsp4 rfl,?_⟩;obtain⟨e5,h5⟩:=qqK hI4.hok hI4.swf hb4 (.loop { rec with state:=.busy,pending:=none }) (y':=.lp 2 none) (World.putObj_heap_same hl4)
        refine hX H.length (some l) nf hdy _ s2 e a1 _ S4 β4 _ hev2 ⟨hI4.swf.ext e5,hI4.gok.ext e5,by rw[World.putObj_size];exact hI4.hB,h5,hI4.fok.ext e5 (Later.refl _),hI4.size,hI4.defers.ext e5 (Later.refl _),⟨yb,by omega,hyok.later (e03.trans (e4.trans e5)) ((lb23.mono (by omega)).trans (l4.mono (by omega)))⟩,by rw[qaT];exact hI4.base⟩ ?_
        intro a2 w6 S6 β6 hI6 e6 l6;obtain⟨hb6,hsp6⟩:=qqL (y:=.lp 2 none) hb4 (l6 _ hlt).1 hI6.hok hobj2;have hsp6:w6.heap[l]? = some (.loop { rec with state:=.busy,pending:=none }):=hsp6
        have hl6:l<w6.heap.size:=(Array.getElem?_eq_some_iff.1 hsp6).1
        have key:∀jump:CE Code,jump=(if isN e then none else some (exC e))->∃v w',(Instr.endRound l jump).run P w6=.ok v w'/\∃u S' β',Ending.returned v=Ending.returned u/\Ext B w3 S3 w' S'/\Swf w' S'/\HOK C B w' S' β' H'/\Later β3 β'/\Ae C w' S' β' r u/\H.length<=H'.length/\Kp H.length H.length β3 β':=by
         intro jump hj;refine⟨_,_,run_endRound jump hsp6,?_⟩;have hy:SpOK (w6.putObj l (.loop { rec with state:=if jump.isNone then .ready else .done,pending:=jump })) S6 l (.loop rec) (if isN e then .lp 0 none else .lp 1 (some e)):=by
          cases hn:isN e with
          |true=>
           rw[hn]at hj;subst hj;exact World.putObj_heap_same hl6
          |false=>
           rw[hn]at hj;subst hj;exact World.putObj_heap_same hl6
         obtain⟨e7,h7⟩:=qqK hI6.hok hI6.swf hb6 (.loop { rec with state:=if jump.isNone then .ready else .done,pending:=jump }) hy
         have hbool:Ae C (w6.putObj l (.loop { rec with state:=if jump.isNone then .ready else .done,pending:=jump })) S6 β6 (.d (.b (isN e))) (.bool jump.isNone):=by
          have:jump.isNone=isN e:=by rw[hj];cases isN e<;>rfl
          rw[this];exact .d _ _ (.b _)
         obtain⟨β7,k1,k2,k3,k4⟩:=qyq h7 hbool (base:=H.length) (by rw[qaT];exact hI6.base)
         have lb37:Lb H.length β3 β7:=l4.trans (l6.trans k3)
         rw[h]at k1 k2 k4;exact⟨_,S6,β7,rfl,e4.trans (e5.trans (e6.trans e7)),hI6.swf.ext e7,k1,qts lb37 (λo ho=>hH3.out o ho),k2,k4,λo ho _ hp=>(lb37 o ho).2 hp⟩
        cases e with
        |norm=>exact key none rfl
        |exit id=>exact key (some (.exit id)) rfl
        |ret=>exact key (some .ret) rfl
       ·cases h
      ·cases h
     ·cases h
    ·cases h
   ·cases h
  ·cases h
 ·obtain⟨g1,g2⟩:=hyok o' args H r H' h;refine⟨g1,λw3 S3 β3 us blk r0 e3 l3 hl3=>g2 w3 S3 β3 us blk r0 (hext.trans e3) ((lb02.mono (by omega)).trans (l3.mono (by omega))) (by omega)⟩
def qP1(hO:OrOK P C N E)(hN:NOK P N C E.G){nt n:Nat}(hng:nt<=gh){x y:PC}{ca cx:Code}(hA:CS P N C E B nt n x ca)(hX:CS P N C E B nt n y cx){f:Operand}{rf:Ab}(hr:qbq P N none f=some rf){ps:Array Tmp}(hps:∀p∈ps.toList,p<nt){g:Nat}(hg:gh<=g)
  {live:Cy} (hdx:qbP nt true x=true) (hdy:qbP nt true y=true) {base:Nat} {s s':St} {ex:Ex} {nf:Nat} {Q:Exit->Act->CL->Prop} (he:qah E (lpN n) base (.rng rf g ps.toList live x y) s=some (ex,s')) (hI:Inv P N C E B base nt s a w S β)
  (hQ:∀a' w' S' β',Inv P N C E B base nt s' a' w' S' β'->Ext B w S w' S'->Lb base β β'->Q (qph ex) a' w'):(Code.rangeFunc f ps ca cx).wpIn (FR none) nf P Q a w:=by
 simp only[qah]at he;split at he;case h_2=>cases he
 rename_i m caps h1 h2;split at he;case h_2=>cases he
 rename_i r H' hit;have hrel:=qjO hN hI.gok hI.fok hr
 rw[h1]at hrel;obtain⟨us,q1,q2,q3⟩:=qsE hrel;refine wpIn_rangeFunc λfn _=>?_
 have hpend:∀o,s.H.length<=o->β o=.pend:=λo ho=>hI.hok.out o ho
 have hbs:=hI.base
 obtain⟨yb,hyb,hyok⟩:=hI.yok;have hg2:=qno hI.hok 2
 have ho1:β (s.H.length+1)=.pend:=hpend _ (by omega)
 obtain⟨k1,k2⟩:=qsU hg2 hI.swf hI.hB (id:=s.H.length+1) ho1 (by simp) (ob:=.deferred (some [])) (x:=.defer) (y:=.df) (World.alloc_heap_new w _)
 have e1:Ext B w S (w.alloc (.deferred (some []))) S:=qAZ hI.swf hI.hB _
 have hS1:Swf (w.alloc (.deferred (some []))) S:=hI.swf.ext e1
 have hB1:B<=(w.alloc (.deferred (some []))).heap.size:=zzL hI.hB e1.below.size
 have hsz1:(w.alloc (.deferred (some []))).heap.size=w.heap.size+1:=World.size_alloc ..
 have ho0:upd β (s.H.length+1) (.sp w.heap.size .defer) s.H.length=.pend:=by rw[qaD (by omega)];exact hpend _ (zzt _)
 obtain⟨k3,k4⟩:=qsU k1 hS1 hB1 (id:=s.H.length) ho0 (by simp[qaT]) (ob:=.loop { state:=.ready,pending:=none,fn,tmps:=a.tmps,params:=ps,assign:=ca,body:=cx,defers:=w.heap.size })
  (x:=.loop { state:=.ready,pending:=none,fn,tmps:=a.tmps,params:=ps,assign:=ca,body:=cx,defers:=w.heap.size }) (y:=.lp 0 none) (World.alloc_heap_new _ _)
 have e2:Ext B (w.alloc (.deferred (some []))) S ((w.alloc (.deferred (some []))).alloc (.loop { state:=.ready,pending:=none,fn,tmps:=a.tmps,params:=ps,assign:=ca,body:=cx,defers:=w.heap.size })) S:=qAZ hS1 hB1 _
 rw[qLd,hsz1]at k3;rw[hsz1]at k4;generalize hrec:({ state:=.ready,pending:=none,fn,tmps:=a.tmps,params:=ps,assign:=ca,body:=cx,defers:=w.heap.size }:Loop)=rec at *
 generalize hw2:(w.alloc (.deferred (some []))).alloc (.loop rec)=w2 at *
 generalize hβ2:upd (upd β (s.H.length+1) (.sp w.heap.size .defer)) s.H.length (.sp (w.heap.size+1) (.loop rec))=β2 at *
 have e02:Ext B w S w2 S:=e1.trans e2
 have hb2:β2 s.H.length=.sp (w.heap.size+1) (.loop rec):=by rw[<-hβ2,qaZ]
 have hd2:β2 (s.H.length+1)=.sp w.heap.size .defer:=by rw[<-hβ2,qaD (by omega),qaZ]
 have lat2:Later β β2:=(k2).trans k4
 have hyk:=qP0 hng hA hX hps hdx hdy hI e02 hβ2.symm (by rw[<-hrec]) (by rw[<-hrec]) (by rw[<-hrec]) (by rw[<-hrec]) live
 have hlen2:(s.H++[some (Obj.lp 0 none),some Obj.df]).length=s.H.length+2:=by simp
 have hcall:=hO.it _ _ _ _ _ _ hit B w2 S β2 (.func (.yield (w.heap.size+1)) #[] #[]::us) (zzL hI.hB e02.below.size) (hI.swf.ext e02) (hI.gok.ext e02) k3 (by simp[q2]) (λj hj hj'=>by
  cases j with
  |zero=>
   have hrh:RelH β2 s.H.length (.func (.yield (w.heap.size+1)) #[] #[]):=by
    unfold RelH;rw[hb2]
   exact .h _ _ rfl hrh
  |succ j=>exact (q3 j (by simpa using hj) (by simpa using hj')).ext e02 lat2) (by rw[hlen2];exact hyk)
 refine⟨w.heap.size+1,[{ target:=.collected w.heap.size,args := #[] }],w2,{ target:=.fn (.func (C.μ m)) us.toArray,args := #[.func (.yield (w.heap.size+1)) #[] #[]] },w2,C.μ m,(Value.func (.yield (w.heap.size+1)) #[] #[]::us).toArray,w2,?_,?_,λ_ _=>trivial,?_,(λh=>by simp[FR,Fence.wide]at h),qw6.2 (hcall.mono ?_)⟩
 ·rw[<-hw2,<-hrec];exact run_enterLoop_outer fn a.tmps ps ca cx
 ·simp only[resolve,q1,Deferred.ofValue,Sem.run_pure,List.map_toArray,zzu,List.map_nil,Array.empty_append];rfl
 ·obtain⟨fn',z1,z2,z3⟩:=hO.fni _ _ _ _ _ hit;simp only[invoke];have harr : #[Value.func (.yield (w.heap.size+1)) #[] #[]]++us.toArray=(Value.func (.yield (w.heap.size+1)) #[] #[]::us).toArray:=by apply Array.ext';simp
  rw[harr];exact qqC z1 z2 z3 _
 rintro e w3 ⟨u,S3,β3,rfl,e3,hS3,hH3,lat3,-,hl3,kp3⟩;rw[hlen2]at hl3 kp3;have lb03:Lb base β β3:=λo ho=>by
  have h02:β2 o=β o:=by rw[<-hβ2,qaD (by omega),qaD (by omega)]
  refine⟨?_,λhp=>kp3 o (by omega) (by omega) (by rw[h02];exact hp)⟩
  rw[<-h02];exact lat3 o
 have fin:∀(st:Nat) (j:CE Ex),(H'.obj s.H.length=some (.lp st j))->qob st≠.busy->∀(s1:St),s1=⟨s.fr.set g (.g (.h (s.H.length+1))),H'.put s.H.length none⟩->∃w4,(Instr.endLoop (w.heap.size+1)).run P w3=.ok (j.map exC) w4/\∃S4 β4,Ext B w S w4 S4/\Lb base β β4/\
   Inv P N C E B base nt s1 { a with defers:=[{ target:=.collected w.heap.size,args := #[] }]++a.defers } w4 S4 β4:=by
  intro st j hob hst s1 hs1;obtain⟨hb3,hsp3⟩:=qqL hb2 (lat3 _) hH3 hob;have hsp3:w3.heap[w.heap.size+1]? = some (.loop { rec with state:=qob st,pending:=j.map exC }):=hsp3
  refine⟨_,run_endLoop hsp3 hst,S3,upd β3 s.H.length .dead,?_⟩;obtain⟨e4,h4,l4⟩:=qyP hH3 hS3 hb3 (.loop { rec with state:=.exhausted,pending:=j.map exC })
  have e04:=e02.trans (e3.trans e4)
  have lat04:Later β (upd β3 s.H.length .dead):=lat2.trans (lat3.trans l4)
  have lb04:Lb base β (upd β3 s.H.length .dead):=lb03.trans (λo ho=>by rw[qaD (by omega)];exact⟨.inl rfl,λh=>h⟩)
  refine⟨e04,lb04,?_⟩;subst hs1;refine⟨hS3.ext e4,hI.gok.ext e04,zzL hI.hB e04.below.size,h4,?_,hI.size,?_,⟨yb,hyb,hyok.later e04 (lb04.mono hyb)⟩,by simp only[qaT];omega⟩
  ·intro t;show Ae C _ S3 _ ((s.fr.set g _).get t) _
   rw[qdm];split
   ·exact .g _ _
   ·exact (hI.fok t).ext e04 lat04
  ·refine (hI.defers.ext e04 lat04).push hg h2 ⟨w.heap.size,rfl,?_⟩;rcases l4 (s.H.length+1)with h|h|h
   ·rcases lat3 (s.H.length+1)with h'|h'|h'
    ·rw[h,h',hd2];exact .inl rfl
    ·rw[h,h'];exact .inr rfl
    ·rw[hd2]at h';cases h'
   ·exact .inr h
   ·rcases lat3 (s.H.length+1)with h'|h'|h'
    ·rw[h',hd2]at h;cases h
    ·rw[h']at h;cases h
    ·rw[hd2]at h';cases h'
 split at he
 ·rename_i hob;simp only[zzb,zzc]at he;obtain⟨rfl,rfl⟩:=he;obtain⟨w4,r1,S4,β4,r2,r3,r4⟩:=fin 0 none hob (by simp[qob]) _ rfl
  exact⟨none,w4,r1,hQ _ w4 S4 β4 r4 r2 r3⟩
 ·rename_i e' hob;simp only[zzb,zzc]at he;obtain⟨rfl,rfl⟩:=he;obtain⟨w4,r1,S4,β4,r2,r3,r4⟩:=fin 1 (some e') hob (by simp[qob]) _ rfl
  refine⟨some (exC e'),w4,r1,?_⟩;cases e' with
  |norm=>exact wpIn_skip (hQ _ w4 S4 β4 r4 r2 r3)
  |exit id=>exact wpIn_exit (hQ _ w4 S4 β4 r4 r2 r3)
  |ret=>exact wpIn_ret (hQ _ w4 S4 β4 r4 r2 r3)
 ·cases he
end
section
variable {P:CO}{N:Names}{C:Cx}{w:CL}{S:qac}{β:Pl}{B:Nat}{H:CP}{a:Act}{E:Env}
def qpc{ops:Array Oper}{o:Oper}(h:qbG o.op=true):(qaq P N ops o).g=none/\((qaq P N ops o).op=.bad/\(qaq P N ops o).dst=o.dst\/(∃x y,(qaq P N ops o).op=.dfr x y)/\o.dst=none):=by
 cases hop:o.op<;>(rw[hop]at h;try (cases h;done))
 rename_i c;unfold qaq;split
 ·rename_i x g hx hg;rw[if_pos (by rw[hop];rfl)]
  split
  ·rename_i hc;simp only[zzf,Option.isNone_iff_eq_none]at hc;refine⟨rfl,.inr ⟨?_,hc.2⟩⟩;simp only[qaO,hop]at hx;split at hx
   ·split at hx
    ·cases hx;exact⟨_,_,rfl⟩
    ·cases hx
   ·cases hx
  ·exact⟨rfl,.inl ⟨rfl,rfl⟩⟩
 ·exact⟨rfl,.inl ⟨rfl,rfl⟩⟩
def qpg{E:Env}:∀(L:CF Ao) (id:Nat) (s s':St),qaM E L id s=some s'->∀o∈L,o.g=none->o.op≠.bad
 |[],_,_,_,_,_,hm,_=>absurd hm (zzC)
 |o::L,id,s,s',h,o',hm,hg=>by
  rcases List.mem_cons.1 hm with rfl|hm
  ·intro hb;simp only[qaM,hg,hb,qaa]at h;cases h
  ·simp only[qaM]at h;have go:∀r,(match qaa E (rd E s.fr) s.H id o.op with
     |some (v,H)=>qaM E L (if o.op.adds then id+1 else id) ⟨match o.dst with|some t=>s.fr.set t v|none=>s.fr,H⟩
     |none=>none)=some r->o'.op≠.bad:=by
    intro r hr;split at hr
    ·exact qpg L _ _ _ hr o' hm hg
    ·cases hr
   split at h
   ·exact go _ h
   ·split at h
    ·split at h
     ·exact go _ h
     ·exact qpg L _ _ _ h o' hm hg
    ·exact qpg L _ _ _ h o' hm hg
    ·cases h
def qxV{E:Env}:∀(L:CF Ao) (bf:Cy) (acc:CF (Cy×Cy)) (id:Nat) (s s':St),qbu E L bf acc id s=some s'->∀o∈L,o.g=none->o.op≠.bad/\∀x y,o.op≠.dfr x y
 |[],_,_,_,_,_,_,_,hm,_=>absurd hm (zzC)
 |o::L,bf,acc,id,s,s',h,o',hm,hg=>by
  simp only[qbu]at h;split at h
  ·rename_i s1 h1;split at h
   ·rcases List.mem_cons.1 hm with rfl|hm
    ·refine⟨λhb=>?_,λx y hb=>?_⟩ <;>
     ·simp[Bn,hg,hb,qal,IOp.okD,IOp.barr]at h1
    ·exact qxV L _ _ _ _ _ h o' hm hg
   ·cases h
  ·cases h
def qF2{o:Oper}{x y:Ab}(h:qaO P N o=some (.dfr x y)):qbG o.op=true:=by
 cases hop:o.op<;>simp only[qaO,hop]at h<;>first
  |rfl
  | (exfalso;repeat' first
    | (cases h;done)
    |contradiction
    | (split at h)
    | (rw[zza]at h;obtain⟨_,_,h⟩:=h)
    | (simp only[qsh,qsg]at h))
def qF1{ops:Array Oper}{o:Oper}(hd:qbG o.op=false)(x y:Ab):(qaq P N ops o).op≠.dfr x y:=by
 intro h;unfold qaq at h;split at h
 ·rename_i z g hz hg;rw[if_neg (by simp[hd])]at h
  simp only at h;subst h;rw[qF2 hz]at hd;cases hd
 ·cases h
def qsl{nt:Nat}{inr:CG}{ops:Array Oper}(hd:(ops.toList.map (qaq P N ops)).all (qjf nt inr)=true):∀o∈ops.toList,∀d,o.dst=some d->d<nt:=by
 intro o ho d hod;have h1:qjf nt inr (qaq P N ops o)=true:=List.all_eq_true.1 hd _ (List.mem_map_of_mem ho)
 cases hdf:qbG o.op with
 |true=>
  rcases (qpc (P:=P) (N:=N) (ops:=ops) hdf).2 with ⟨h2,h3⟩|⟨-,h3⟩
  ·unfold qjf at h1;rw[h2,h3,hod]at h1;simpa using h1
  ·rw[h3]at hod;cases hod
 |false=>
  have h3:=qsi (P:=P) (N:=N) o ops hdf
  unfold qjf at h1;split at h1
  ·rename_i x y hx;exact absurd hx (qF1 hdf x y)
  ·rw[h3,hod]at h1;simpa using h1
def qxj(hO:OrOK P C N E)(hN:NOK P N C E.G){nt n:Nat}(hng:nt<=gh):∀(pc:PC) (c:Code),qaL pc=qaJ P N c->CS P N C E B nt n pc c:=by
 intro pc;induction pc with
 |skip=>
  intro c hb base ro nf _ s s' ex a w S β Q he hI hQ;cases c with
  |skip=>
   simp only[qah,zzb,zzc]at he;obtain⟨rfl,rfl⟩:=he;exact wpIn_skip (hQ a w S β hI (Ext.refl _ _ _) (Lb.refl _ _))
  |region id ops d=>simp only[qaJ,qaL]at hb; (repeat' split at hb)<;>cases hb
  |rangeFunc f ps x y=>simp only[qaJ,qaL]at hb;split at hb<;>cases hb
  |cond x y z=>simp only[qaJ,qaL]at hb;split at hb<;>cases hb
  |_=>simp[qaL,qaJ]at hb
 |reg ops kill=>
  intro c hb base ro nf hds s s' ex a w S β Q he hI hQ;cases c with
  |region id ops' d=>
   simp only[qaJ,qaL]at hb;split at hb
   ·rename_i hd;split at hb
    ·rename_i hok;split at hb
     ·rename_i hlit;simp only[PC.reg.injEq,and_true]at hb;subst hb;subst hd;simp only[qah]at he;split at he
      ·rename_i s1 hs1;simp only[zzb,zzc]at he;obtain⟨rfl,rfl⟩:=he;unfold qcu at hs1;split at hs1
       ·rename_i s2 hs2;cases hs1;have hd2:=qsl (P:=P) (N:=N) (ops:=ops') hds
        have hnof:∀o∈ops'.toList,qbG o.op=false:=by
         intro o ho;cases hdf:qbG o.op with
         |false=>rfl
         |true=>
          exfalso
          have hm:qaq P N ops' o∈ops'.toList.map (qaq P N ops'):=List.mem_map_of_mem ho
          obtain⟨g3,g4⟩:=qJH hlit _ hm;obtain⟨g1,g2⟩:=qpc (P:=P) (N:=N) (ops:=ops') hdf;rcases g2 with ⟨g2,-⟩|⟨⟨x,y,g2⟩,-⟩
          ·exact g3 g2
          ·exact g4 x y g2
        refine qPT (base:=base) (nt:=nt) (B:=B) (S:=S) (β:=β) hO hN hng hnof hd2 hok hlit hs2 hI ?_;intro a' w' S' β' hI' e1 e2;refine hQ a' w' S' β' ⟨hI'.swf,hI'.gok,hI'.hB,hI'.hok,?_,hI'.size,hI'.defers.frame (λt ht=>qsK kill ht s2.fr),hI'.yok,hI'.base⟩ e1 e2
        intro t;rcases qsJ kill t s2.fr with h|h
        ·rw[h];exact hI'.fok t
        ·rw[h];exact .u _
       ·cases hs1
      ·cases he
     ·cases hb
    ·cases hb
   ·rename_i hd;simp only[PC.reg.injEq,and_true]at hb;subst hb;have hd':d=false:=by simpa using hd
    subst hd';simp only[qah]at he;split at he
    ·rename_i s1 hs1;simp only[zzb,zzc]at he;obtain⟨rfl,rfl⟩:=he;unfold qcu at hs1;split at hs1
     ·rename_i s2 hs2;cases hs1;refine wpIn_region ?_;rw[List.range_eq_range'];have hlen:s.H.length<=(s.H++List.replicate (qao (ops'.toList.map (qaq P N ops'))) none).length:=by simp
      have hd2:=qsl (P:=P) (N:=N) (ops:=ops') hds
      have hro:ro=none\/∀o∈ops'.toList,qbG o.op=false:=by
       cases ro with
       |none=>exact .inl rfl
       |some l=>
        refine .inr λo ho=>?_
        cases hdf:qbG o.op with
        |false=>rfl
        |true=>
         exfalso
         have hm:qaq P N ops' o∈ops'.toList.map (qaq P N ops'):=List.mem_map_of_mem ho
         obtain⟨g1,g2⟩:=qpc (P:=P) (N:=N) (ops:=ops') hdf;rcases g2 with ⟨g2,-⟩|⟨⟨x,y,g2⟩,-⟩
         ·exact qpg _ _ _ _ hs2 _ hm g1 g2
         ·have:=List.all_eq_true.1 hds _ hm
          unfold qjf at this;rw[g2]at this;cases this
      obtain⟨yb,hyb,hyok⟩:=hI.yok;refine qO2 (base:=base) (nt:=nt) hO hN hng hro hd2 ops'.size 0 s.H.length (s.H.length+qao (ops'.toList.map (qaq P N ops'))) ⟨s.fr,s.H++List.replicate (qao (ops'.toList.map (qaq P N ops'))) none⟩ s2 a w S β (by omega) (by simpa using hs2) ⟨hI.swf,hI.gok,hI.hB,qno hI.hok _,hI.fok,hI.size,hI.defers,⟨yb,hyb,hyok⟩,zzL hI.base hlen⟩ ?_ ?_ ?_ hI.base ?_
      ·intro j hj _;exact hI.hok.out j hj
      ·simp
      ·simp
      ·intro a' w' S' β' hI' e1 e2;refine hQ a' w' S' β' ⟨hI'.swf,hI'.gok,hI'.hB,hI'.hok,?_,hI'.size,hI'.defers.frame (λt ht=>qsK kill ht s2.fr),hI'.yok,hI'.base⟩ e1 e2
       intro t;rcases qsJ kill t s2.fr with h|h
       ·rw[h];exact hI'.fok t
       ·rw[h];exact .u _
     ·cases hs1
    ·cases he
  |cond x y z=>simp only[qaJ,qaL]at hb;split at hb<;>cases hb
  |rangeFunc f ps x y=>simp only[qaJ,qaL]at hb;split at hb<;>cases hb
  |_=>simp[qaL,qaJ]at hb
 |A7 ops bf kill=>
  intro c hb base ro nf hds s s' ex a w S β Q he hI hQ;cases c with
  |region id ops' d=>
   simp only[qaJ,qaL]at hb;split at hb
   ·rename_i hd;split at hb
    ·rename_i hok;split at hb
     ·cases hb
     simp only[PC.A7.injEq,and_true]at hb;obtain⟨rfl,rfl⟩:=hb;subst hd;simp only[qah]at he;split at he
     ·rename_i s1 hs1;simp only[zzb,zzc]at he;obtain⟨rfl,rfl⟩:=he;unfold qc4 at hs1;split at hs1
      ·rename_i s2 hs2;cases hs1;have hd2:=qsl (P:=P) (N:=N) (ops:=ops') hds
       have hnof:∀o∈ops'.toList,qbG o.op=false:=by
        intro o ho;cases hdf:qbG o.op with
        |false=>rfl
        |true=>
         exfalso
         have hm:qaq P N ops' o∈ops'.toList.map (qaq P N ops'):=List.mem_map_of_mem ho
         obtain⟨g1,g2⟩:=qpc (P:=P) (N:=N) (ops:=ops') hdf;obtain⟨g3,g4⟩:=qxV _ _ _ _ _ _ hs2 _ hm g1;rcases g2 with ⟨g2,-⟩|⟨⟨x,y,g2⟩,-⟩
         ·exact g3 g2
         ·exact g4 x y g2
       refine qPS (base:=base) (nt:=nt) (B:=B) (S:=S) (β:=β) hO hN hng hnof hd2 hok hs2 hI ?_
       ·intro a' w' S' β' hI' e1 e2;refine hQ a' w' S' β' ⟨hI'.swf,hI'.gok,hI'.hB,hI'.hok,?_,hI'.size,hI'.defers.frame (λt ht=>qsK kill ht s2.fr),hI'.yok,hI'.base⟩ e1 e2
        intro t;rcases qsJ kill t s2.fr with h|h
        ·rw[h];exact hI'.fok t
        ·rw[h];exact .u _
      ·cases hs1
     ·cases he
    ·cases hb
   ·cases hb
  |cond x y z=>simp only[qaJ,qaL]at hb;split at hb<;>cases hb
  |rangeFunc f ps x y=>simp only[qaJ,qaL]at hb;split at hb<;>cases hb
  |_=>simp[qaL,qaJ]at hb
 |seq x y ihx ihy=>
  intro c hb base ro nf hds s s' ex a w S β Q he hI hQ;simp only[qbP,zzf]at hds;cases c with
  |seq c1 c2=>
   simp only[qaJ,qaL,PC.seq.injEq]at hb;simp only[qah]at he;refine wpIn_seq ?_;cases hx:qah E (lpN n) base x s with
   |none=>rw[hx]at he;cases he
   |some v=>
    obtain⟨e1,s1⟩:=v;refine ihx c1 hb.1 base ro nf hds.1 s s1 e1 a w S β _ hx hI ?_;intro a' w' S' β' hI' g1 g2;rw[hx]at he;cases e1 with
    |norm=>
     exact ihy c2 hb.2 base ro nf hds.2 s1 s' ex a' w' S' β' Q he hI' λa'' w'' S'' β'' hI'' g3 g4=>hQ a'' w'' S'' β'' hI'' (g1.trans g3) (g2.trans g4)
    |exit id=>
     simp only[zzb,zzc]at he;obtain⟨rfl,rfl⟩:=he;exact hQ a' w' S' β' hI' g1 g2
    |ret=>
     simp only[zzb,zzc]at he;obtain⟨rfl,rfl⟩:=he;exact hQ a' w' S' β' hI' g1 g2
  |region id ops d=>simp only[qaJ,qaL]at hb; (repeat' split at hb)<;>cases hb
  |rangeFunc f ps x y=>simp only[qaJ,qaL]at hb;split at hb<;>cases hb
  |cond x y z=>simp only[qaJ,qaL]at hb;split at hb<;>cases hb
  |_=>simp[qaL,qaJ]at hb
 |cond c x y ihx ihy=>
  intro cc hb base ro nf hds s s' ex a w S β Q he hI hQ;simp only[qbP,zzf]at hds;cases cc with
  |cond c0 c1 c2=>
   simp only[qaJ,qaL]at hb;split at hb
   ·rename_i r hr;simp only[PC.cond.injEq]at hb;obtain⟨rfl,hb1,hb2⟩:=hb;have hrel:=qjO hN hI.gok hI.fok hr
    simp only[qah]at he;split at he
    ·rename_i hc;rw[hc]at hrel;exact wpIn_cond_true (qi5 hrel) (ihx c1 hb1 base ro nf hds.1 s s' ex a w S β Q he hI hQ)
    ·rename_i hc;rw[hc]at hrel;exact wpIn_cond_false (qi5 hrel) (ihy c2 hb2 base ro nf hds.2 s s' ex a w S β Q he hI hQ)
    ·cases he
   ·cases hb
  |region id ops d=>simp only[qaJ,qaL]at hb; (repeat' split at hb)<;>cases hb
  |rangeFunc f ps x y=>simp only[qaJ,qaL]at hb;split at hb<;>cases hb
  |_=>simp[qaL,qaJ]at hb
 |block id x ih=>
  intro c hb base ro nf hds s s' ex a w S β Q he hI hQ;simp only[qbP]at hds;cases c with
  |block id' c1=>
   simp only[qaJ,qaL,PC.block.injEq]at hb;obtain⟨rfl,hb⟩:=hb;simp only[qah]at he;refine wpIn_block ?_;cases hx:qah E (lpN n) base x s with
   |none=>rw[hx]at he;cases he
   |some v=>
    obtain⟨e1,s1⟩:=v;rw[hx]at he;refine ih c1 hb base ro nf hds s s1 e1 a w S β _ hx hI ?_;intro a' w' S' β' hI' g1 g2;cases e1 with
    |norm=>
     simp only[zzb,zzc]at he;obtain⟨rfl,rfl⟩:=he;exact hQ a' w' S' β' hI' g1 g2
    |exit j=>
     simp only at he;split at he
     ·rename_i hj;simp only[zzb,zzc]at he;obtain⟨rfl,rfl⟩:=he;simp only[beq_iff_eq]at hj;subst hj;simp only[qph,Exit.inBlock,if_true];exact hQ a' w' S' β' hI' g1 g2
     ·rename_i hj;simp only[zzb,zzc]at he;obtain⟨rfl,rfl⟩:=he;simp only[beq_iff_eq]at hj;simp only[qph,Exit.inBlock,hj,if_false];exact hQ a' w' S' β' hI' g1 g2
    |ret=>
     simp only[zzb,zzc]at he;obtain⟨rfl,rfl⟩:=he;exact hQ a' w' S' β' hI' g1 g2
  |region id ops d=>simp only[qaJ,qaL]at hb; (repeat' split at hb)<;>cases hb
  |rangeFunc f ps x y=>simp only[qaJ,qaL]at hb;split at hb<;>cases hb
  |cond x y z=>simp only[qaJ,qaL]at hb;split at hb<;>cases hb
  |_=>simp[qaL,qaJ]at hb
 |loop live x ih=>
  intro c hb base ro nf hds s s' ex a w S β Q he hI hQ;simp only[qbP]at hds;cases c with
  |loop c1=>
   simp only[qaJ,qaL,PC.loop.injEq,true_and]at hb;simp only[qah]at he;refine wpIn_loop_rounds n ?_;have key:∀(m:Nat) (s:St) (a:Act) (w1:CL) (S1:qac) (β1:Pl),lpN m (λs=>qah E (lpN n) base x (gc live base s)) s=some (ex,s')->Inv P N C E B base nt s a w1 S1 β1->Ext B w S w1 S1->Lb base β β1->Code.roundsIn (FR ro) nf P c1 Q m a w1:=by
    intro m;induction m with
    |zero=>intro s a w1 S1 β1 h;cases h
    |succ m ihm=>
     intro s a w1 S1 β1 h hI1 g1 g2;rw[roundsIn_succ];rw[lpN]at h;obtain⟨β2,hI2,g3⟩:=qGL hI1 live;cases hx:qah E (lpN n) base x (gc live base s)with
     |none=>rw[hx]at h;cases h
     |some v=>
      obtain⟨e1,s1⟩:=v;rw[hx]at h;refine ih c1 hb base ro nf hds _ s1 e1 a w1 S1 β2 _ hx hI2 ?_;intro a' w' S' β' hI' g4 g5;cases e1 with
      |norm=>exact ihm s1 a' w' S' β' h hI' (g1.trans g4) ((g2.trans g3).trans g5)
      |exit id=>
       simp only[zzb,zzc]at h;obtain⟨rfl,rfl⟩:=h;exact hQ a' w' S' β' hI' (g1.trans g4) ((g2.trans g3).trans g5)
      |ret=>
       simp only[zzb,zzc]at h;obtain⟨rfl,rfl⟩:=h;exact hQ a' w' S' β' hI' (g1.trans g4) ((g2.trans g3).trans g5)
   exact key n s a w S β he hI (Ext.refl _ _ _) (Lb.refl _ _)
  |region id ops d=>simp only[qaJ,qaL]at hb; (repeat' split at hb)<;>cases hb
  |rangeFunc f ps x y=>simp only[qaJ,qaL]at hb;split at hb<;>cases hb
  |cond x y z=>simp only[qaJ,qaL]at hb;split at hb<;>cases hb
  |_=>simp[qaL,qaJ]at hb
 |rng rf g ps live x y ihx ihy=>
  intro c hb base ro nf hds s s' ex a w S β Q he hI hQ;simp only[qbP,zzf,Bool.not_eq_true',Nat.ble_eq]at hds;obtain⟨⟨⟨⟨hro,hg⟩,hps⟩,hdx⟩,hdy⟩:=hds;have hro:ro=none:=by
   cases ro with
   |none=>rfl
   |some l=>cases hro
  subst hro;cases c with
  |rangeFunc f ps' ca cx=>
   simp only[qaJ,qaL]at hb;split at hb
   ·rename_i r hr;simp only[PC.rng.injEq,true_and]at hb;obtain⟨rfl,rfl,rfl,hb1,hb2⟩:=hb;refine qP1 hO hN hng (ihx ca hb1) (ihy cx hb2) hr ?_ hg hdx hdy he hI hQ;intro p hp
    have:=List.all_eq_true.1 hps p hp
    simpa using this
   ·cases hb
  |region id ops d=>simp only[qaJ,qaL]at hb; (repeat' split at hb)<;>cases hb
  |cond x y z=>simp only[qaJ,qaL]at hb;split at hb<;>cases hb
  |_=>simp[qaL,qaJ]at hb
 |exit id=>
  intro c hb base ro nf _ s s' ex a w S β Q he hI hQ;cases c with
  |exit id'=>
   simp only[qaJ,qaL,PC.exit.injEq]at hb;subst hb;simp only[qah,zzb,zzc]at he;obtain⟨rfl,rfl⟩:=he;exact wpIn_exit (hQ a w S β hI (Ext.refl _ _ _) (Lb.refl _ _))
  |region id ops d=>simp only[qaJ,qaL]at hb; (repeat' split at hb)<;>cases hb
  |rangeFunc f ps x y=>simp only[qaJ,qaL]at hb;split at hb<;>cases hb
  |cond x y z=>simp only[qaJ,qaL]at hb;split at hb<;>cases hb
  |_=>simp[qaL,qaJ]at hb
 |ret=>
  intro c hb base ro nf _ s s' ex a w S β Q he hI hQ;cases c with
  |ret=>
   simp only[qah,zzb,zzc]at he;obtain⟨rfl,rfl⟩:=he;exact wpIn_ret (hQ a w S β hI (Ext.refl _ _ _) (Lb.refl _ _))
  |region id ops d=>simp only[qaJ,qaL]at hb; (repeat' split at hb)<;>cases hb
  |rangeFunc f ps x y=>simp only[qaJ,qaL]at hb;split at hb<;>cases hb
  |cond x y z=>simp only[qaJ,qaL]at hb;split at hb<;>cases hb
  |_=>simp[qaL,qaJ]at hb
 |bad=>intro c hb base ro nf _ s s' ex a w S β Q he;cases he
def qn3(tmps:Array CJ):ResultVar->Sem CJ
 |.tmp t=>pure (tmps.getD t undef)
 |.cell x t=>do loadVar t (<-asAddr (tmps.getD x undef))
def quy{fr:Fr}(hH:HOK C B w S β H)(hf:FOK C w S β fr a):∀{rs:CF ResultVar} {xs:CF RV} {vs:Cu},qh5 P rs=some xs->results fr H xs=some vs->
  ∃us:CF CJ,(rs.mapM (qn3 a.tmps)).run P w=.ok us w/\vs.length=us.length/\∀j (h:j<vs.length) (h':j<us.length),Ae C w S β vs[j] us[j]
 |[],xs,vs,h,hr=>by
  cases h;cases hr;exact⟨[],rfl,rfl,λj h=>absurd h (zzm _)⟩
 |r::rs,xs,vs,h,hr=>by
  unfold qh5 at h;obtain⟨x,hx,h⟩:=zza.1 h;obtain⟨xs',hxs,h⟩:=zza.1 h;cases h;cases r with
  |tmp t=>
   simp only[qsj,zzb]at hx;subst hx;simp only[Sim.results]at hr;split at hr
   ·rename_i vs' hvs;cases hr;obtain⟨us,h1,h2,h3⟩:=quy hH hf hxs hvs;refine⟨a.tmps.getD t undef::us,?_,by simp[h2],?_⟩
    ·simp only[List.mapM_cons,qn3,Sem.run_bind,Sem.run_pure,Result.andThen_ok,h1]
    ·intro j hj hj';cases j with
     |zero=>exact hf t
     |succ j=>exact h3 j (by simpa using hj) (by simpa using hj')
   ·cases hr
  |cell y t=>
   simp only[qsj]at hx;obtain⟨k,hk,hx⟩:=zza.1 hx;cases hx;simp only[Sim.results]at hr;split at hr
   ·rename_i v vs' hv hvs;cases hr;obtain⟨us,h1,h2,h3⟩:=quy hH hf hxs hvs;obtain⟨u,h4,h5⟩:=qAk hH hk (hf y) hv;have h6:(do loadVar t (<-asAddr (a.tmps.getD y undef)):Sem CJ).run P w=.ok u w:=by
     generalize a.tmps.getD y undef=z at *
     cases z with
     |pointer p=>
      cases p with
      |some p=>simpa[Instr.loadAt,Instr.sureAddr,asAddr]using h4
      |none=>simp[Instr.loadAt,Instr.sureAddr]at h4
     |_=>simp[Instr.loadAt,Instr.sureAddr]at h4
    refine⟨u::us,?_,by simp[h2],?_⟩
    ·simp only[Sem.run_bind]at h6;simp only[List.mapM_cons,qn3,Sem.run_bind,h6,Result.andThen_ok,h1,Sem.run_pure]
    ·intro j hj hj';cases j with
     |zero=>exact h5
     |succ j=>exact h3 j (by simpa using hj) (by simpa using hj')
   ·cases hr
def qO5{vs:Cu}{us:CF CJ}(hl:vs.length=us.length)(h:∀j (h:j<vs.length) (h':j<us.length),Ae C w S β vs[j] us[j]) :
  Ae C w S β (qa5 vs) (if h:us.toArray.size=1 then us.toArray[0]else .tuple us.toArray):=by
 unfold qa5;split
 ·rename_i v;have h1:us.toArray.size=1:=by simpa using hl.symm
  rw[dif_pos h1];have h2:us.length=1:=by simpa using h1
  have:=h 0 (by simp) (by omega)
  simpa using this
 ·rename_i hn;have h1:¬us.toArray.size=1:=by
   intro h1;have:vs.length=1:=by simpa[hl]using h1
   cases vs with
   |nil=>simp at this
   |cons v r=>
    cases r with
    |nil=>exact hn v rfl
    |cons _ _=>simp at this
  rw[dif_neg h1];exact .t vs us hl h
def qhP(P:CO)(N:Names)(f:FuncId)(F:PF):Prop:=
 ∃fn c,P.funcs[f]? = some fn/\fn.name ≠ "runtime.NumGoroutine" /\fn.body=some c/\qh5 P fn.results.toList=some F.results/\qaL F.body=qaJ P N c/\qbP (F.Bp+(fn.ntmps-F.Bp)) false F.body=true/\F.Bp+(fn.ntmps-F.Bp)<=gh
def qsP:∀fr:Fr,qan fr=[]->∀t,gh<=t->fr.get t=.u
 |[],_,_,_=>rfl
 | (j,x)::r,h,t,ht=>by
  simp only[qan]at h;split at h
  ·cases h
  ·rename_i hj;simp only[Nat.ble_eq]at hj;simp only[Fr.get];rw[if_neg (by omega)]
   exact qsP r h t ht
def qyE{v:PV}:∀fr:Fr,qan fr=[v]->∃t0,gh<=t0/\fr.get t0=v/\∀t,gh<=t->t≠t0->fr.get t=.u
 |[],h=>by cases h
 | (j,x)::r,h=>by
  simp only[qan]at h;split at h
  ·rename_i hj;simp only[Nat.ble_eq]at hj;simp only[List.cons.injEq]at h;obtain⟨rfl,h⟩:=h;refine⟨j,hj,by simp[Fr.get],λt ht hne=>?_⟩
   simp only[Fr.get];rw[if_neg (λe=>hne e.symm)]
   exact qsP r h t ht
  ·rename_i hj;simp only[Nat.ble_eq]at hj;obtain⟨t0,h1,h2,h3⟩:=qyE r h;have hg:∀t,gh<=t->Fr.get ((j,x)::r) t=Fr.get r t:=λt ht=>by
    simp only[Fr.get];rw[if_neg (by omega)]
   exact⟨t0,h1,(hg t0 h1).trans h2,λt ht hne=>(hg t ht).trans (h3 t ht hne)⟩
def DRel.ne{x:PV}{d:Deferred}(h:DRel C w S β x d):x≠.u:=λhx=>by subst hx;exact h
def qFZ{fr:Fr}{ds:CF Deferred}(h:DfRel C w S β fr ds)(hg:qan fr=[]):ds=[]:=by
 obtain⟨sl,h1,h2,h3,h4,h5⟩:=h;cases ds with
 |nil=>rfl
 |cons d ds=>
  have h0:=h5 0 (by simp at h4;omega) (by simp)
  exact absurd (qsP fr hg _ (h2 _ (zzs _))) h0.ne
def qxy{fr:Fr}{ds:CF Deferred}(h:DfRel C w S β fr ds){v:PV}(hg:qan fr=[v])(hv:v≠.u):∃d,ds=[d]/\DRel C w S β v d:=by
 obtain⟨sl,h1,h2,h3,h4,h5⟩:=h;obtain⟨t0,g1,g2,g3⟩:=qyE fr hg;have hm:t0∈sl:=h3 t0 g1 (by rw[g2];exact hv)
 have hall:∀j (hj:j<sl.length),sl[j]=t0:=λj hj=>by
  have h0:=(h5 j hj (by omega)).ne
  cases Nat.decEq sl[j] t0 with
  |isTrue h=>exact h
  |isFalse h=>exact absurd (g3 _ (h2 _ (zzs hj)) h) h0
 have hlen:sl.length=1:=by
  rcases Nat.lt_trichotomy sl.length 1 with h|h|h
  ·have:sl=[]:=by cases sl with|nil=>rfl|cons _ _=>simp at h
   rw[this]at hm;cases hm
  ·exact h
  ·have hpw:=List.pairwise_iff_getElem.1 h1 0 1 (by omega) h (by omega)
   rw[hall 0 (by omega),hall 1 h]at hpw
   exact absurd rfl hpw
 have hd1:ds.length=1:=by omega
 match ds,hd1 with
 |[d],_=>
  refine⟨d,rfl,?_⟩;have h0:=h5 0 (by omega) (by simp)
  rw[hall 0 (by omega),g2]at h0
  exact h0
def FnR(C:Cx)(B:Nat)(w:CL)(S:qac)(β:Pl)(H:CP)(v:PV)(H':CP)(e:Ending)(w':CL):Prop:=
 ∃u S' β',e=.returned u/\Ext B w S w' S'/\Swf w' S'/\HOK C B w' S' β' H'/\Lb H.length β β'/\Ae C w' S' β' v u/\H.length<=H'.length
def qya(hO:OrOK P C N E)(hN:NOK P N C E.G){n:Nat}{F:PF}{fn:Func}{c:Code}(f4:qh5 P fn.results.toList=some F.results)(f5:qaL F.body=qaJ P N c)(f6:qbP (F.Bp+(fn.ntmps-F.Bp)) false F.body=true)(f7:F.Bp+(fn.ntmps-F.Bp)<=gh)
  {args:Cu} {v:PV} {H':CP} (h:qbb E (lpN n) F args H=some (v,H')) {us:CF CJ} (hS:Swf w S) (hG:GOK N E.G w S) (hB:B<=w.heap.size) (hH:HOK C B w S β H)
  (hl:args.length=us.length) (hr:∀j (h:j<args.length) (h':j<us.length),Ae C w S β args[j] us[j]) (hY:YOK P C N E.G E.yld B w S β H.length) (nf:Nat) :
  c.wpIn (FR none) nf P (bodyPostM (FR none) nf P fn (FnR C B w S β H v H')) { tmps:=us.toArray++Array.replicate (fn.ntmps-us.toArray.size) undef,defers:=[] } w:=by
 unfold qbb at h;split at h
 ·rename_i hn;have hsz:us.toArray.size=F.Bp:=by simp;omega
  have hI:Inv P N C E B H.length (F.Bp+(fn.ntmps-F.Bp)) ⟨Fr.Aa 0 args,H⟩ { tmps:=us.toArray++Array.replicate (fn.ntmps-us.toArray.size) undef,defers:=[] } w S β:=by
   refine⟨hS,hG,hB,hH,?_,by simp only[Array.size_append,Array.size_replicate,hsz],?_,⟨H.length,zzt _,hY⟩,zzt _⟩
   ·intro t;rw[qsL];simp only[zzK,if_true,Nat.sub_zero];by_cases ht:t<args.length
    ·rw[List.getD,zze ht,zzA];have ht':t<us.length:=by omega
     have:(us.toArray++Array.replicate (fn.ntmps-us.toArray.size) undef).getD t undef=us[t]:=by
      rw[zzx,Array.getElem?_append_left (by simpa using ht')]
      simp[ht']
     rw[this];exact hr t ht ht'
    ·rw[List.getD,List.getElem?_eq_none (by omega),Option.getD_none]
     exact .u _
   ·refine⟨[],List.nodup_nil,λt ht=>absurd ht (zzC),λt ht hne=>absurd ?_ hne,rfl,λj hj=>absurd hj (zzm _)⟩
    show (Fr.Aa 0 args).get t=.u
    rw[qsL];simp only[zzK,if_true,Nat.sub_zero];rw[List.getD,List.getElem?_eq_none (by omega),Option.getD_none]
  have last:∀(fr:Fr) (H2:CP) (vs:Cu) (tmps:Array CJ) (w':CL) (S':qac) (β':Pl),Swf w' S'->HOK C B w' S' β' H2->(∀t,Ae C w' S' β' (fr.get t) (tmps.getD t undef))->Ext B w S w' S'->Lb H.length β β'->H.length<=H2.length->Sim.results fr H2 F.results=some vs->qa5 vs=v->H2=H'->
    LeavesInM (FR none) nf P fn tmps (FnR C B w S β H v H') [] .returning w':=by
   rintro fr H2 vs tmps w' S' β' g1 g2 g3 g4 g5 g6 hvs rfl rfl;obtain⟨us',e1,e2,e3⟩:=quy (a:={ tmps:=tmps,defers:=[] }) g2 g3 f4 hvs;refine⟨(if h:us'.toArray.size=1 then us'.toArray[0]else .tuple us'.toArray),?_,_,S',β',rfl,g4,g1,g2,g5,qO5 e2 e3,g6⟩
   have e4:(fn.results.mapM (qn3 tmps)).run P w'=.ok us'.toArray w':=by
    rw[Array.mapM_eq_mapM_toList,Sem.run_map,e1];rfl
   unfold Go.results;rw[Sem.run_bind];show Result.andThen ((fn.results.mapM (qn3 tmps)).run P w') _=_
   rw[e4];rfl
  have fin:∀(s:St) (H2:CP) (vs:Cu) (a':Act) (w':CL) (S':qac) (β':Pl),Inv P N C E B H.length (F.Bp+(fn.ntmps-F.Bp)) s a' w' S' β'->Ext B w S w' S'->Lb H.length β β'->Bo E (qan s.fr) s.H=some H2->Sim.results s.fr H2 F.results=some vs->qa5 vs=v->H2=H'->
    LeavesInM (FR none) nf P fn a'.tmps (FnR C B w S β H v H') a'.defers .returning w':=by
   intro s H2 vs a' w' S' β' hI' g1 g2 hg hvs hpk hH2;unfold Bo at hg;split at hg
   ·rename_i hgs;simp only[zzb]at hg;rw[qFZ hI'.defers hgs];rw[<-hg]at hvs hH2;exact last s.fr s.H vs a'.tmps w' S' β' hI'.swf hI'.hok hI'.fok g1 g2 hI'.base hvs hpk hH2
   ·rename_i o hgs;split at hg
    ·rename_i hob;simp only[zzb]at hg;obtain⟨d,hd,hr⟩:=qxy hI'.defers hgs (by simp)
     obtain⟨r,rfl,hb⟩:=hr;have hb:β' o=.sp r .defer:=by
      rcases hb with hb|hb
      ·exact hb
      ·rw[hI'.hok.dead o hb]at hob;cases hob
     obtain⟨-,y,k1,k2⟩:=hI'.hok.sp o r _ hb;rw[hob]at k1;cases k1;have k2:w'.heap[r]? = some (.deferred (some [])):=k2
     obtain⟨e4,h4,l4⟩:=qyP hI'.hok hI'.swf hb (.deferred none);rw[hd];refine⟨by simp,.inl ⟨r,_,rfl,run_takeDeferred k2,?_⟩⟩
     rw[<-hg]at hvs hH2;refine last s.fr _ vs a'.tmps _ S' _ (hI'.swf.ext e4) h4 (λt=>(hI'.fok t).ext e4 l4) (g1.trans e4) (g2.trans λo' ho'=>?_) (by rw[qaT];exact hI'.base) hvs hpk hH2
     refine⟨l4 o',λhp=>?_⟩
     have hne:o'≠o:=λhq=>by subst hq;rw[hb]at hp;cases hp
     rw[qaD hne];exact hp
    ·cases hg
   ·rename_i m caps hgs;split at hg;case isFalse=>cases hg
    rename_i hdok;split at hg
    ·rename_i rv H3 href;simp only[zzb]at hg;subst hg;obtain⟨d,hd,hr⟩:=qxy hI'.defers hgs (by simp)
     obtain⟨us',rfl,q2,q3⟩:=hr;obtain⟨fn',z1,z2,z3⟩:=hO.fn _ _ _ _ href;rw[hd];refine⟨by simp,.inr ⟨(λh=>by simp[FR,Fence.wide]at h),.func (C.μ m),us'.toArray,C.μ m,us'.toArray,rfl,?_,λ_ _=>trivial,?_⟩⟩
     ·simp only[invoke,Array.empty_append];exact qqC z1 z2 z3 _
     ·refine CallsDIn.mono (hO.dfr _ _ _ _ _ hdok href B w' S' β' us' .returning (nf-1) hI'.hB hI'.swf hI'.gok hI'.hok q2 q3) ?_;rintro e u' w3 ⟨rfl,u,S3,β3,rfl,e3,hS3,hH3,lat3,-,hl3,kp3⟩;refine last s.fr H3 vs a'.tmps w3 S3 β3 hS3 hH3 (λt=>(hI'.fok t).ext e3 lat3) (g1.trans e3) (g2.trans λo' ho'=>⟨lat3 o',λhp=>kp3 o' ?_ ?_ hp⟩) (zzL hI'.base hl3) hvs hpk hH2
      ·have:=hI'.base;omega
      ·have:=hI'.base;omega
    ·cases hg
   ·cases hg
  split at h
  ·rename_i s hs;split at h
   ·rename_i H2 hg;split at h
    ·rename_i vs hvs;simp only[zzb,zzc]at h;refine qxj hO hN f7 F.body c f5 H.length none nf f6 _ s .norm _ w S β _ hs hI ?_;intro a' w' S' β' hI' g1 g2;exact fin s H2 vs a' w' S' β' hI' g1 g2 hg hvs h.1 h.2
    ·cases h
   ·cases h
  ·rename_i s hs;split at h
   ·rename_i H2 hg;split at h
    ·rename_i vs hvs;simp only[zzb,zzc]at h;refine qxj hO hN f7 F.body c f5 H.length none nf f6 _ s .ret _ w S β _ hs hI ?_;intro a' w' S' β' hI' g1 g2;exact fin s H2 vs a' w' S' β' hI' g1 g2 hg hvs h.1 h.2
    ·cases h
   ·cases h
  ·cases h
 ·cases h
def qx9(hO:OrOK P C N E)(hN:NOK P N C E.G){n:Nat}{f:FuncId}{F:PF}(hF:qhP P N f F){args:Cu}{v:PV}{H':CP}(h:qbb E (lpN n) F args H=some (v,H')){us:CF CJ}(hS:Swf w S)(hG:GOK N E.G w S)(hB:B<=w.heap.size)(hH:HOK C B w S β H)
  (hl:args.length=us.length) (hr:∀j (h:j<args.length) (h':j<us.length),Ae C w S β args[j] us[j]) (hY:YOK P C N E.G E.yld B w S β H.length):Calls P f us.toArray w (FnR C B w S β H v H'):=by
 obtain⟨fn,c,f1,-,f3,f4,f5,f6,f7⟩:=hF;exact (callsIn_wide (n:=0)).1 (callsIn_of_wp_marks f1 f3 trivial (qya hO hN f4 f5 f6 f7 h hS hG hB hH hl hr hY 0))
def qGB(hO:OrOK P C N E)(hN:NOK P N C E.G){n:Nat}{f:FuncId}{F:PF}(hF:qhP P N f F){args:Cu}{v:PV}{H':CP}(h:qbb E (lpN n) F args H=some (v,H')){us:CF CJ}(hS:Swf w S)(hG:GOK N E.G w S)(hB:B<=w.heap.size)(hH:HOK C B w S β H)
  (hl:args.length=us.length) (hr:∀j (h:j<args.length) (h':j<us.length),Ae C w S β args[j] us[j]) (hY:YOK P C N E.G E.yld B w S β H.length) (u:FrameMode) (nf:Nat):CallsDIn Fence.wide nf P f us.toArray u w λe u' w'=>u'=u/\FnR C B w S β H v H' e w':=by
 obtain⟨fn,c,f1,-,f3,f4,f5,f6,f7⟩:=hF;exact qFk f1 f3 (qya hO hN f4 f5 f6 f7 h hS hG hB hH hl hr hY nf)
end
section
variable {P:CO}{N:Names}{C:Cx}{w:CL}{S:qac}{β:Pl}{B:Nat}{H:CP}{a:Act}{E:Env}
structure TabOK (P:Program) (N:Names) (C:Cx) (T:Tab):Prop where
 names:NOK P N C T.G
 f:∀f F,T.F f=some F->qhP P N (C.μ f) F
 x:∀f ds r own,T.F f=none->T.X f ds=some (r,own)->qiE P C N T.G f ds r own
 r:∀f args H r H',T.F f=none->T.R f args H=some (r,H')->qoi P C N T.G f args H r H'
 rf:∀f args H r,T.F f=none->T.R f args H=some r->∃fn,P.funcs[C.μ f]? = some fn/\fn.body.isNone=false/\fn.name ≠ "runtime.NumGoroutine"
 xf:∀f ds r,T.F f=none->T.X f ds=some r->∃fn,P.funcs[C.μ f]? = some fn/\fn.body.isNone=false/\fn.name ≠ "runtime.NumGoroutine"
def qPn{w0:CL}{S0:qac}{v r:PV}{own:CG}{u:CJ}(h:AJ H v=some (r,own))(hS:Swf w S)(hH:HOK C w0.heap.size w S β H)(he:Ext w0.heap.size w0 S0 w S)(hv:Ae C w S β v u) :
  ∃S',Ext w0.heap.size w0 S0 w S'/\Swf w S'/\(own=false->Ae C w S' (λ_=>.pend) r u)/\(own=true->∃k es,r=.d (.l k es false)/\qrB w S' k es u w0.heap.size):=by
 have frozen:∀os,Ext w0.heap.size w0 S0 w (FSq β H os S)/\Swf w (FSq β H os S):=λos=>⟨he.trans (qeu hH os),qjj hH hS os⟩
 unfold AJ at h;split at h
 ·split at h
  ·rename_i xs os hp;cases h;cases hv with
   |t _ us h1 h2=>
   obtain⟨h3,h4⟩:=qud hH hp;refine⟨FSq β H os S,(frozen os).1,(frozen os).2,λ_=>.t _ us (by simp;omega) ?_,λh=>by cases h⟩
   intro j hj hj';rw[List.getElem_map];exact .d _ _ (h4 us h2 j _ hj')
  ·cases h
 ·rename_i o k off len t;split at h
  ·rename_i k' ro es ho;split at h
   ·rename_i hc;obtain⟨rfl,hle⟩:=hc;simp only[zzb,zzc]at h;obtain⟨rfl,hown⟩:=h;cases hb:own with
    |false=>
     refine⟨FSq β H [o] S,(frozen [o]).1,(frozen [o]).2,λ_=>?_,λh=>by cases h⟩
     exact .d _ _ (qt8 hH hv (by simp[qaW,ho,hle]))
    |true=>
     rw[hb]at hown;have hro:ro<=off:=by simpa using hown
     refine⟨S,he,hS,(λh=>by cases h),λ_=>⟨_,_,rfl,?_⟩⟩
     cases hv with
     |r _ _ _ _ _ _ h0 hx=>
     have hlen:((es.drop off).take len).length=len:=by simp;omega
     unfold RelRf at hx;split at hx
     ·exact hx.elim
     ·rename_i hb;rw[hH.dead o hb]at ho;cases ho
     ·obtain⟨rfl,rfl,a,rfl⟩:=hx;exact .inl ⟨by simp,a,rfl⟩
     ·rename_i blk base k3 hb;obtain⟨e1,cap,a,rfl,e2,e3,e4,e',n,e5,e6⟩:=hx;subst e1;rcases Nat.eq_zero_or_pos cap with h0|h0
      ·subst h0;have:len=0:=by omega
       subst this;exact .inl ⟨by simp,some a,rfl⟩
      ·have:=e2 h0
       subst this;obtain⟨hB,x,cells,e0,ho',hs,hw,hc⟩:=hH.live o blk base k3 hb;rw[ho]at ho';cases ho';obtain⟨q0,c,q1,q2,q3⟩:=hc;have hcs:n=cells.size:=by
        unfold World.shape? at e5;rw[hw]at e5;cases e5;rfl
       subst hcs;refine .inr ⟨blk,base+off*k3.size,cap,cells,e0,by rw[hlen],by omega,hB,hw,by rw[Nat.add_assoc,<-zzl];exact e6,?_,?_⟩
       ·intro j hj;refine q3 j ?_;have:ro*k3.size<=off*k3.size:=zzh _ hro
        omega
       ·refine⟨?_,λj=>c (off+j),?_,?_⟩
        ·rw[hlen,zzJ,Array.length_toList];have:(off+len)*k3.size<=(off+cap)*k3.size:=zzh _ (by omega)
         rw[zzl]at this;omega
        ·intro j hj m hm
         have:=q1 (off+j) (by omega) m hm
         rw[zzl]at this;rw[List.getElem?_drop];have e7:base+off*k3.size+(j*k3.size+m)=base+(off*k3.size+j*k3.size)+m:=by omega
         rw[e7];simpa using this
        ·intro j hj
         have:=q2 (off+j) (by omega)
         simpa[List.getElem_drop,List.getElem_take]using this
     ·exact hx.elim
   ·cases h
  ·cases h
 ·rename_i k es;simp only[zzb,zzc]at h;obtain⟨rfl,hown⟩:=h;cases hv with
  |d _ _ hv=>
  refine⟨S,he,hS,λ_=>?_,λh1=>⟨k,es,rfl,?_⟩⟩
  ·cases hv with
   |l _ _ _ a cap blk off c c1 c2 c3 c4 c5=>exact .d _ _ (.l _ _ false a cap blk off c c1 (λh=>by cases h) c3 c4 c5)
  ·rw[h1]at hown;have:es=[]:=by simpa using hown
   subst this;cases hv with
   |l _ _ _ a cap blk off c c1 c2 c3 c4 c5=>
   have:=c2 rfl
   subst this;exact .inl ⟨rfl,a,rfl⟩
 ·split at h
  ·rename_i x os hp;cases h;exact⟨FSq β H os S,(frozen os).1,(frozen os).2,λ_=>.d _ _ (qlf hH hv hp),λh=>by cases h⟩
  ·cases h
def qx8{v r:PV}{H1 H':CP}{e:Ending}{w':CL}(hH:HOK C B w S β H)(h:FnR C B w S β H v H1 e w')(hg:gcV H.length v H1=(r,H')) :
  ∃u S' β',e=.returned u/\Ext B w S w' S'/\Swf w' S'/\HOK C B w' S' β' H'/\Later β β'/\Ae C w' S' β' r u/\H.length<=H'.length/\Kp H.length H.length β β':=by
 obtain⟨u,S',β',rfl,e1,e2,e3,e4,e5,e6⟩:=h;obtain⟨β2,k1,k2,k3,k4⟩:=qyq e3 e5 e6;rw[hg]at k1 k2 k4;have hlb:=e4.trans k3
 exact⟨u,S',β2,rfl,e1,e2,k1,qts hlb (λo ho=>hH.out o ho),k2,k4,λo ho _ hp=>(hlb o ho).2 hp⟩
def qBi{T:Tab}{n:Nat}(h:OrOK P C N (qb3 T n))(Y:Nat->Cu->CP->CB):OrOK P C N (Bb T n Y):=⟨h.val,h.ref,h.dfr,h.it,h.fni,h.fnv,h.fn⟩
def qQU{T:Tab}(hT:TabOK P N C T):∀n,OrOK P C N (qb3 T n):=by
 intro n;induction n with
 |zero=>exact⟨λf ds r own h=>by simp[qb3,Bb,qcF]at h,λf args H r H' h=>by simp[qb3,Bb,qhs,itN]at h,λf args H r H' hd h=>by simp[qb3,Bb,qhs,itN]at h,λY f args H r H' h=>by simp[qb3,Bb,itN]at h,λY f args H r h=>by simp[qb3,Bb,itN]at h,λf ds r h=>by simp[qb3,Bb,qcF]at h,λf args H r h=>by simp[qb3,Bb,qhs,itN]at h⟩
 |succ n ih=>
  have fni:∀Y f args H r,itN T (n+1) Y f args H=some r->∃fn,P.funcs[C.μ f]? = some fn/\fn.body.isNone=false/\fn.name ≠ "runtime.NumGoroutine" :=by
   intro Y f args H r h;rw[qdG]at h;cases hF:T.F f with
   |none=>rw[hF]at h;exact hT.rf _ _ _ _ hF h
   |some F=>
    obtain⟨fn,c,f1,f2,f3,-⟩:=hT.f f F hF;exact⟨fn,f1,by rw[f3];rfl,f2⟩
  have it:∀Y f args H r H',itN T (n+1) Y f args H=some (r,H')->qv2 P C N T.G Y f args H r H':=by
   intro Y f args H r H' h;rw[qdG]at h;cases hF:T.F f with
   |none=>
    rw[hF]at h;intro B w S β us hB hS hG hH hl hr hY;exact hT.r _ _ _ _ _ hF h B w S β us hB hS hG hH hl hr
   |some F=>
    rw[hF]at h;simp only at h;split at h
    ·rename_i v H1 he;simp only[zzb]at h;intro B w S β us hB hS hG hH hl hr hY;refine (qx9 (qBi ih Y) hT.names (hT.f f F hF) he hS hG hB hH hl hr hY).mono ?_;intro e w' hR;exact qx8 hH hR h
    ·cases h
  refine⟨?_,λf args H r H' h B w S β us hB hS hG hH hl hr=>it noY f args H r H' h B w S β us hB hS hG hH hl hr qv1,?_,it,fni,?_,λf args H r h=>fni noY f args H r h⟩
  ·intro f ds r own h;change qcF T (n+1) f ds=some (r,own)at h
   rw[qiD]at h;cases hF:T.F f with
   |none=>rw[hF]at h;exact hT.x f ds r own hF h
   |some F=>
    rw[hF]at h;simp only at h;split at h
    ·rename_i v H' he;intro w S us hS hG hl hr;have h0:HOK C w.heap.size w S (λ_=>.pend) []:=⟨(λo blk base k h=>by cases h),(λo h=>by cases h),(λo h=>by cases h),(λo o' blk base k base' k' h=>by cases h),λ_ _=>rfl,(λo blk x h=>by cases h),(λo o' blk x x' h=>by cases h)⟩
     have:=qx9 ih hT.names (hT.f f F hF) (args:=ds.map .d) (H:=[]) he hS hG (zzt _) h0 (by simpa using hl) (λj hj hj'=>by
      rw[List.getElem_map];exact .d _ _ (hr j (by simpa using hj) hj')) qv1
     refine this.mono ?_;rintro e w' ⟨u,S',β',rfl,e1,e2,e3,-,e5,-⟩;obtain⟨S2,q1,q2,q3,q4⟩:=qPn h e2 e3 e1 e5;exact⟨u,S2,rfl,q1,q2,q3,q4⟩
    ·cases h
  ·intro f args H r H' hd h;change itN T (n+1) noY f args H=some (r,H')at h
   rw[qdG]at h;cases hF:T.F f with
   |none=>simp[qb3,Bb,Tab.dok,hF]at hd
   |some F=>
    rw[hF]at h;simp only at h;split at h
    ·rename_i v H1 he;simp only[zzb]at h;intro B w S β us u nf hB hS hG hH hl hr;refine CallsDIn.mono (qGB (qBi ih noY) hT.names (hT.f f F hF) he hS hG hB hH hl hr qv1 u nf) ?_;rintro e u' w' ⟨rfl,hR⟩;exact⟨rfl,qx8 hH hR h⟩
    ·cases h
  ·intro f ds r h;change qcF T (n+1) f ds=some r at h
   rw[qiD]at h;cases hF:T.F f with
   |none=>rw[hF]at h;exact hT.xf f ds r hF h
   |some F=>
    obtain⟨fn,c,f1,f2,f3,-⟩:=hT.f f F hF;exact⟨fn,f1,by rw[f3];rfl,f2⟩
def qDx{T:Tab}(hT:TabOK P N C T){f:Nat}{ds:Ct}{r:PV}{own:CG}(h:T.val f ds=some (r,own)):qiE P C N T.G f ds r own:=by
 obtain⟨n,hn⟩:=(qlq T f ds (r,own)).1 h;exact (qQU hT n).val f ds r own hn
def qJr{T:Tab}(hT:TabOK P N C T){f:Nat}{ds:Ct}{own:CG}(h:T.val f ds=some (.d (.b true),own)){us:CF CJ}(hS:Swf w S)(hG:GOK N T.G w S)(hl:ds.length=us.length)(hr:∀j (h:j<ds.length) (h':j<us.length),Al w S ds[j] us[j]) :
  Calls P (C.μ f) us.toArray w λe w'=>e=.returned (.bool true)/\Below w.heap.size w w':=by
 refine (qDx hT h w S us hS hG hl hr).mono ?_;rintro e w' ⟨u,S',rfl,e1,-,e3,e4⟩;cases own with
 |false=>exact⟨by rw[qi5 (e3 rfl)],e1.below⟩
 |true=>obtain⟨k,es,h,-⟩:=e4 rfl;cases h
end
def qnO(l:CF (Nat×Nat×Nat))(f:Nat):CE (Nat×Nat):=match l with
 |[]=>none
 | (g,x)::r=>if g=f then some x else qnO r f
def qp9(l:CF (Nat×Nat×Nat))(n:Nat):Nat:=match l with
 |[]=>0
 | (g,k,_)::r=>if k=n then g else qp9 r n
def qAT{f:Nat}{x:Nat×Nat}:∀{l:CF (Nat×Nat×Nat)},qnO l f=some x->(f,x)∈l
 |[],h=>by cases h
 | (g,y)::r,h=>by
  simp only[qnO]at h;split at h
  ·rename_i hg;subst hg;cases h;exact zzr ..
  ·exact zzi _ (qAT h)
def qLb{P:CO}{l:CF (Nat×Nat×Nat)}{G:Nat->CE (DV×K)}{g:Nat->Nat}(hm:P.follows .mixedOrders=true)(h:(l.all λx=>qp9 l x.2.1==x.1)=true):NOK P ⟨qnO l,g⟩ ⟨qp9 l⟩ G:=by
 refine⟨?_,hm⟩;intro f x hx
 have:=List.all_eq_true.1 h _ (qAT hx)
 simpa using this
def asciiL:Cw:=[0,0,0,0,0,0,0,0,0,1,1,1,1,1,0,0,0,0,0,0,0,0,0,0,0,0,0,0,0,0,0,0,1,0,0,0,0,0,0,0,0,0,0,0,0,0,0,0,0,0,0,0,0,0,0,0,0,0,0,0,0,0,0,0,0,0,0,0,0,0,0,0,0,0,0,0,0,0,0,0,0,0,0,0,0,0,0,0,0,0,0,0,0,0,0,0,0,0,0,0,0,0,0,0,0,0,0,0,0,0,0,0,0,0,0,0,0,0,0,0,0,0,0,0,0,0,0,0,0,0,0,0,0,0,0,0,0,0,0,0,0,0,0,0,0,0,0,0,0,0,0,0,0,0,0,0,0,0,0,0,0,0,0,0,0,0,0,0,0,0,0,0,0,0,0,0,0,0,0,0,0,0,0,0,0,0,0,0,0,0,0,0,0,0,0,0,0,0,0,0,0,0,0,0,0,0,0,0,0,0,0,0,0,0,0,0,0,0,0,0,0,0,0,0,0,0,0,0,0,0,0,0,0,0,0,0,0,0,0,0,0,0,0,0,0,0,0,0,0,0,0,0,0,0,0,0]
def qgE(k:K)(b:Nat)(args:Cu)(H:CP):CB:=match args with
 |[x,.d (.i .i64 i),.r ov kv offv lv tv]=>match qa4 H k (.r ov kv offv lv tv)with
  |some [y]=>match x with
   |.r o k' off len _=>match H.obj o with
    |some (.sl k'' ro es)=>
     if K.eq k k'&&K.eq k k''&&decide (off+len<=es.length)&&decide (ro<=off)&&decide (0<=i)&&decide (i<=len)&&decide ((len+1)*b<=2^47) && !(Nat.beq o ov)then
      some (.r H.length k 0 (len+1) false,(H++[none]).put o none |>.put H.length (some (.sl k 0 (((es.drop off).take len).take i.toNat++y::((es.drop off).take len).drop i.toNat))))
     else none
    |_=>none
   |.d (.l _ [] true)=>if i=0&&decide (b<=2^47)then some (.r H.length k 0 1 false,(H++[none]).put H.length (some (.sl k 0 [y])))else none
   |_=>none
  |_=>none
 |_=>none
section
variable {P:CO}{N:Names}{C:Cx}{w:CL}{S:qac}{β:Pl}{B:Nat}{H:CP}{a:Act}{E:Env}{ρ:Go.Shelf.Ren}
def qxH{H:CP}{k:K}{v:PV}{ys:Ct}(n:Nat)(h:qa4 H k v=some ys):qa4 (H++List.replicate n none) k v=some ys:=by
 unfold qa4 at h⊢;split at h
 ·exact h
 ·rename_i o k' off len t;simp only[qqh];exact h
 ·exact h
 ·cases h
def qAb{id:Nat}{v:PV}{H':CP}{u:CJ}{w':CL}(hid:id=H.length)(h:qeI C B w S β (H++List.replicate 1 none) id v H' u w') :
  ∃S' β',Ext B w S w' S'/\Swf w' S'/\HOK C B w' S' β' H'/\Later β β'/\Ae C w' S' β' v u/\H.length<=H'.length/\Kp H.length H.length β β':=by
 obtain⟨S',β',h1,h2,h3,h4,h5,h6,h7⟩:=h;subst hid;refine⟨S',β',h1,h2,h3,h4,h5,by rw[h6];simp,λo h8 h9 h10=>h7 o (by simp;omega) h9 h10⟩
def qPV{o:Nat}{k:K}{off len:Nat}{t:CG}{u:CJ}(h:Ae C w S β (.r o k off len t) u):Ae C w S β (.r o k off len false) u:=by
 cases h with
 |r _ _ _ _ _ _ h0 hx=>
  refine .r _ _ _ _ _ _ h0 ?_;unfold RelRf at hx⊢;split at hx
  ·exact hx.elim
  ·trivial
  ·exact hx
  ·obtain⟨e1,cap,a,h1,h2,h3,-,h4⟩:=hx;exact⟨e1,cap,a,h1,h2,h3,λh=>(Bool.noConfusion h),h4⟩
  ·exact hx.elim
def qHq{α:Type}{L:CF α}{n:Nat}(h:L.length=n)(y:α):L.take n++y::L.drop n=L++[y]:=by
 rw[zzv (by omega),zzF (by omega)]
def que{α:Type}{a b c:CF α}{n:Nat}{xs:CF α}(hn:n=a.length)(hx:xs.length=b.length):putAt (a++b++c) n xs=a++xs++c:=by
 subst hn;unfold putAt;rw[zzM a b c,List.take_left,hx,<-List.drop_drop,List.drop_left,List.drop_left]
def qHv{L:Ct}{j:Nat}(hj:j<L.length)(y:DV):putAt (L.take (j+1)++L.drop j) j [y]=L.take j++y::L.drop j:=by
 have e1:L.take (j+1)=L.take j++[L[j]]:=by rw[zzw hj]
 rw[e1,que (b:=[L[j]]) (xs:=[y]) (by rw[zzI];omega) rfl,zzM];rfl
def qHt{L:Ct}{j:Nat}(hj:j<=L.length)(y z:DV):putAt (putAt (L.take j++List.replicate (L.length+1-j) z) j [y]) (j+1) (L.drop j)=L.take j++y::L.drop j:=by
 have e1:List.replicate (L.length+1-j) z=[z]++List.replicate (L.length-j) z:=by
  have:L.length+1-j=(L.length-j)+1:=by omega
  rw[this,List.replicate_succ];rfl
 rw[e1,<-zzM,que (b:=[z]) (xs:=[y]) (by rw[zzI];omega) rfl]
 have:=que (a:=L.take j++[y]) (b:=List.replicate (L.length-j) z) (c:=[]) (n:=j+1) (xs:=L.drop j) (by rw[zzp,zzI];simp;omega) (by rw[zzJ,List.length_replicate])
 rw[List.append_nil,List.append_nil]at this;rw[this,zzM];rfl
def qHp{G:Nat->CE (DV×K)}{f:Nat}{k:K}{e:CK}(hL:Go.Proofs.InsL P (C.μ f) ρ k.size)(he:ρ.t 9=e)(hk:kq P e=some k){z:DV}(hz:zq P e=some z)(hb0:P.bytesOf e≠0)(hk0:0<k.size){args:Cu}{H H':CP}{r:PV}(h:qgE k (P.bytesOf e) args H=some (r,H')) :
  qoi P C N G f args H r H':=by
 intro B w S β us hB hS hG hH hl hr;have ht:=hL.t24
 rw[he]at ht;have hp:β H.length=.pend:=hH.out _ (zzt _)
 have hg:=qno hH 1
 have hlt:H.length<(H++List.replicate 1 none).length:=by simp
 unfold qgE at h;split at h;case h_2=>cases h
 rename_i x i ov kv offv lv tv;split at h;case h_2=>cases h
 rename_i y hy;match us,hl with
 |[ux,ui,uv],_=>
 have hxr:=hr 0 (by simp) (by simp)
 have hir:=hr 1 (by simp) (by simp)
 have hvr:=hr 2 (by simp) (by simp)
 simp only[List.getElem_cons_zero,zzG]at hxr hir hvr;have hui:ui=.int .i64 i:=qnu hir
 subst hui;obtain⟨vb,basev,hbv,capv,av,rfl,hav,hcv1⟩:∃vb basev,β ov=.at vb basev k/\∃capv av,uv=.slice (some av) 1 capv/\av=⟨vb,basev+offv*k.size,none⟩/\1<=capv:=by
  have hl1:lv=1:=by
   have:=hy
   unfold qa4 at this;simp only at this;split at this
   ·split at this
    ·rename_i hc;simp only[zzf,zzq]at hc;simp only[zzb]at this;have h2:=congrArg List.length this
     simp only[zzI,zzJ,zzn,List.length_nil]at h2;omega
    ·cases this
   ·cases this
  subst hl1;cases hvr with
  |r _ _ _ _ _ _ hfx hv=>
  have hkk:kv=k:=by
   have:=hy
   unfold qa4 at this;simp only at this;split at this
   ·split at this
    ·rename_i hc;simp only[zzf,zzq]at hc;exact (K.eq_spec hc.1.1).symm
    ·cases this
   ·cases this
  subst hkk;unfold RelRf at hv;split at hv
  ·exact hv.elim
  ·rename_i hb;unfold qa4 at hy;simp only[hH.dead ov hb]at hy;cases hy
  ·obtain⟨-,h1,-⟩:=hv;cases h1
  ·rename_i blk base k3 hb;obtain⟨e1,cap,a,rfl,e2,e3,-⟩:=hv;subst e1;exact⟨blk,base,hb,cap,a,rfl,e2 (by omega),e3⟩
  ·exact hv.elim
 subst hav;have hshape:∀{b0:Nat} {cs:Array CJ} {e0:CK},w.heap[b0]? = some (.cells cs e0 (0,0))->w.shape? b0=some (e0,cs.size):=λh=>by unfold World.shape?;rw[h]
 have hfroz:∀{b0:Nat} {cs:Array CJ} {e0:CK} (q:Nat),w.heap[b0]? = some (.cells cs e0 (0,0))->w.frozen? ⟨b0,q,none⟩=false:=λq h=>by unfold World.frozen?;simp[h]
 split at h
 ·
  rename_i o k' off len tt0 _;replace hxr:=qPV hxr
  split at h;case h_2=>cases h
  rename_i k'' ro es ho;split at h;case isFalse=>cases h
  rename_i hc;simp only[zzf,zzq,Bool.not_eq_true']at hc;obtain⟨⟨⟨⟨⟨⟨⟨hk1,hk2⟩,hle⟩,hro⟩,hi0⟩,hil⟩,hbig⟩,hne⟩:=hc
  have:=K.eq_spec hk1
  subst this
  have:=K.eq_spec hk2
  subst this;have hoo:o≠ov:=λhq=>by subst hq;rw[Nat.beq_refl]at hne;cases hne
  simp only[zzb,zzc]at h;obtain⟨rfl,rfl⟩:=h;obtain⟨j,rfl⟩:=Int.eq_ofNat_of_zero_le hi0;have hjl:j<=len:=by omega
  have holt:=qio ho
  have ho1:Heap.obj (H++List.replicate 1 none) o=some (.sl k ro es):=by rw[qqh];exact ho
  have hov1:Heap.obj (H++List.replicate 1 none) ov=H.obj ov:=qqh _ _ _
  have hpl:((es.drop off).take len).length=len:=by simp;omega
  have hnp:β o≠.pend:=λhq=>by
   cases hxr with
   |r _ _ _ _ _ _ _ hx=>unfold RelRf at hx;rw[hq]at hx;exact hx
  have hno:H.length≠o:=by omega
  have hnv:H.length≠ov:=λhq=>by rw[<-hq,hp]at hbv;cases hbv
  rw[Int.toNat_natCast];by_cases hjn:j=len
  ·
   subst hjn;obtain⟨ur,w',e1,e2⟩:=qrK (P:=P) (ts := #[ρ.t 24,ρ.t 24]) (id:=H.length) hg hS hB hp hlt rfl rfl ht hk (.inl ⟨_,ht⟩) hz hb0 (ρ.t 24) (x:=.r o k off j false) (y:=.r ov kv offv lv tv) hxr hvr (v:=.r H.length k 0 (j+1) false) (H':=((H++[none]).put o none).put H.length (some (.sl k (ro-off) ((es.drop off).take j++[y])))) (by
    have hy1:=qxH 1 hy
    unfold qbU;rw[hy1];simp only[ho1,List.length_singleton];have:(K.eq k k&&K.eq k k&&decide (off+j<=es.length)&&decide ((j+1)*P.bytesOf e<=2^47))=true:=by
     simp only[zzf,zzq];exact⟨⟨⟨hk1,hk1⟩,hle⟩,hbig⟩
    rw[if_pos this];have hro':ro<=off+j:=by omega
    simp only[zzg,if_false,hro',if_true];rfl)
   obtain⟨bs,cp,rfl,hcp⟩:∃bs cp,ux=.slice bs j cp/\j<=cp:=by
    cases hxr with
    |r _ _ _ _ _ _ _ hx=>
    unfold RelRf at hx;split at hx
    ·exact hx.elim
    ·rename_i hb;rw[hH.dead o hb]at ho;cases ho
    ·obtain⟨-,rfl,a,rfl⟩:=hx;exact⟨_,_,rfl,zzt _⟩
    ·obtain⟨-,cap,a,rfl,-,h3,-⟩:=hx;exact⟨_,_,rfl,h3⟩
    ·exact hx.elim
   refine (Go.Proofs.ins_end hL bs j cp capv _ ur w w' hcp (λty=>e1)).mono ?_
   rintro e3 w3 ⟨rfl,rfl⟩;rw[qHq hpl];have e5:ro-off=0:=by omega
   rw[e5]at e2;obtain⟨S',β',g1,g2,g3,g4,g5,g6,g7⟩:=qAb rfl e2;exact⟨ur,S',β',rfl,g1,g2,g3,g4,g5,g6,g7⟩
  ·
   have hjlt:j<len:=by omega
   obtain⟨blk,base,hbo,cap,rfl,hcap,e',hsh⟩:∃blk base,β o=.at blk base k/\∃cap,ux=.slice (some ⟨blk,base+off*k.size,none⟩) len cap/\len<=cap/\∃e' ,∃n,w.shape? blk=some (e',n)/\base+(off+cap)*k.size<=n:=by
    cases hxr with
    |r _ _ _ _ _ _ _ hx=>
    unfold RelRf at hx;split at hx
    ·exact hx.elim
    ·rename_i hb;rw[hH.dead o hb]at ho;cases ho
    ·obtain⟨-,rfl,-⟩:=hx;omega
    ·rename_i blk base k3 hb;obtain⟨e1,cap,a,rfl,e2,e3,-,e',n,e5,e6⟩:=hx;subst e1;rw[e2 (by omega)]
     exact⟨blk,base,hb,cap,rfl,e3,e',n,e5,e6⟩
    ·exact hx.elim
   obtain⟨n,hsh,hcapn⟩:=hsh;obtain⟨hBb,x',cells,e0,ho',hs,hw,hc⟩:=hH.live o blk base k hbo;rw[ho]at ho';cases ho';obtain⟨hbs,c,hf,hrr,hnS⟩:=hc;have hcs:n=cells.size:=by rw[hshape hw]at hsh;cases hsh;rfl
   subst hcs;obtain⟨hBv,xv,cellsv,ev,hov',hsv,hwv,-⟩:=hH.live ov vb basev k hbv;have hvb:vb≠blk:=λhq=>hoo (hH.inj o ov blk base k basev k hbo (hq▸hbv))
   have hcell:∀t,t<len->∀m,m<k.size->cells[base+off*k.size+t*k.size+m]? = some (c (off+t) m)/\flat (c (off+t) m):=by
    intro t ht m hm
    have:=hf (off+t) (by omega) m hm
    rw[zzl]at this;have e1:base+off*k.size+t*k.size+m=base+(off*k.size+t*k.size)+m:=by omega
    rw[e1];exact this
   have hrel:∀t (h:t<((es.drop off).take len).length),Al w S ((es.drop off).take len)[t] (mkV k (c (off+t))):=by
    intro t h;rw[hpl]at h
    have:=hrr (off+t) (by omega)
    simpa[List.getElem_drop,List.getElem_take]using this
   generalize hL0:(es.drop off).take len=L at hpl hrel⊢;have hro3:ro*k.size<=off*k.size:=zzh _ hro
   have hend:(off+cap)*k.size=off*k.size+cap*k.size:=zzl _ _ _
   have hlc:len*k.size<=cap*k.size:=zzh _ hcap
   have hjs:(j+1)*k.size=j*k.size+k.size:=by rw[zzl,Nat.one_mul]
   have hls:(len-j)*k.size+j*k.size=len*k.size:=by rw[<-zzl];congr 1;omega
   have hcap47:∀q,(q+1)*P.bytesOf e<=2^47->q+1<=140737488355328:=λq h=>by
    have:(q+1)*1<=(q+1)*P.bytesOf e:=Nat.mul_le_mul_left _ (by omega)
    omega
   have hA1l:((cells.toList.drop (base+off*k.size+j*k.size)).take ((len-j)*k.size)).length=(len-j)*k.size:=by
    rw[zzI,zzJ,Array.length_toList];omega
   have hA1g:∀q,q<(len-j)*k.size->((cells.toList.drop (base+off*k.size+j*k.size)).take ((len-j)*k.size))[q]? = cells[base+off*k.size+j*k.size+q]? :=by
    intro q hq;rw[List.getElem?_take,if_pos hq,List.getElem?_drop,Array.getElem?_toList]
   have hcellq:∀q,q<(len-j)*k.size->∃v,cells[base+off*k.size+j*k.size+q]? = some v/\v.oneCell'=true:=by
    intro q hq;have h1:=hcell (j+q/k.size) (by
     have:q/k.size<len-j:=(Nat.div_lt_iff_lt_mul hk0).2 hq
     omega) (q%k.size) (Nat.mod_lt _ hk0)
    have e1:base+off*k.size+(j+q/k.size)*k.size+q%k.size=base+off*k.size+j*k.size+q:=by
     have:q/k.size*k.size+q%k.size=q:=by rw[Nat.mul_comm];exact Nat.div_add_mod q k.size
     rw[zzl];omega
    rw[e1]at h1;exact⟨_,h1.1,h1.2⟩
   generalize hA1:(cells.toList.drop (base+off*k.size+j*k.size)).take ((len-j)*k.size)=A1 at hA1l hA1g;have hA1f:∀v∈A1,v.oneCell'=true:=by
    intro v hv;obtain⟨q,hq,rfl⟩:=List.mem_iff_getElem.1 hv;rw[hA1l]at hq;obtain⟨v,h1,h2⟩:=hcellq q hq
    have:=hA1g q hq
    rw[h1,zze (by omega),zzb]at this
    rw[this];exact h2
   have hread:∀(W:CL),(∀q,W.cell? ⟨blk,q,none⟩=w.cell? ⟨blk,q,none⟩)->∀ln cp,(Builtin.firstCells k.size (len-j) (.slice (some ⟨blk,base+off*k.size+j*k.size,none⟩) ln cp)).run P W=.ok A1.toArray W:=by
    intro W hW ln cp;refine run_firstCells_some W k.size (len-j) _ ln cp A1 hA1l ?_;intro q v hq;have hql:q<(len-j)*k.size:=by rw[<-hA1l];exact (zzk.1 hq).1
    rw[qfl,hW];rw[hA1g q hql]at hq;simpa[World.cell?,hw]using hq
   by_cases hroom:len+1<=cap
   ·
    have hpos:base+off*k.size+(j+1)*k.size+A1.length<=cells.size:=by
     have h1:(len+1)*k.size<=cap*k.size:=zzh _ hroom
     rw[zzl,Nat.one_mul]at h1;rw[hA1l];omega
    have hsz:(putAt cells.toList (base+off*k.size+(j+1)*k.size) A1).toArray.size=cells.size:=by
     have:=qcB (l:=cells.toList) (c:=base+off*k.size+(j+1)*k.size) (xs:=A1) (by simpa using hpos)
     simpa using this
    have hget:∀q,(putAt cells.toList (base+off*k.size+(j+1)*k.size) A1).toArray[q]? = if base+off*k.size+(j+1)*k.size<=q/\q<base+off*k.size+(j+1)*k.size+(len-j)*k.size then A1[q-(base+off*k.size+(j+1)*k.size)]? else cells[q]? :=by
     intro q
     have:=qdu (l:=cells.toList) (c:=base+off*k.size+(j+1)*k.size) (xs:=A1) (by simpa using hpos) q
     rw[List.getElem?_toArray,this,hA1l];simp
    have hkeep:∀q,S blk q->(putAt cells.toList (base+off*k.size+(j+1)*k.size) A1).toArray[q]? = cells[q]? :=by
     intro q hq;rw[hget,if_neg];intro hc;exact hnS q (by omega) hq
    have hwd:w.drew.heap[blk]? = some (.cells cells e0 (0,0)):=hw
    have hst:(storeCells ⟨blk,base+off*k.size+(j+1)*k.size,none⟩ A1).run P w.drew=.ok () (w.drew.setRow blk (putAt cells.toList (base+off*k.size+(j+1)*k.size) A1).toArray):=by
     have:=run_storeCells_at P blk (base+off*k.size+(j+1)*k.size) e0 A1 0 cells w.drew hwd (by simpa using hpos) hA1f
     simpa[putAt]using this
    have hcp1:∀ty,(Builtin.copy_ #[ρ.t 24,ρ.t 24] ty #[.slice (some ⟨blk,base+off*k.size+(j+1)*k.size,none⟩) (len-j) (cap-(j+1)),.slice (some ⟨blk,base+off*k.size+j*k.size,none⟩) (len+1-j) (cap-j)]).run P w.drew=.ok (goInt (len-j:Nat)) (w.drew.setRow blk (putAt cells.toList (base+off*k.size+(j+1)*k.size) A1).toArray):=λty=>
     qo5 (w:=w.drew) (m:=len+1-j) rfl ht hk (by simp[Builtin.lenOf]) (by omega) (hread w.drew (λ_=>rfl) _ _) (by simpa using hst) ty
    have hext0:Ext B w S w.drew S:=qbE
    have hmv:=qyN (id:=H.length) (base':=base+off*k.size) hg.drew hbo hp hlt hno hwd hsz hkeep (x:=.sl k 0 (L.take (j+1)++L.drop j)) (by
     intro β' _;have hLl:(L.take (j+1)++L.drop j).length=len+1:=by rw[zzp,zzI,zzJ];omega
     have hext1:=qhE (S:=S) (B:=B) (cells':=(putAt cells.toList (base+off*k.size+(j+1)*k.size) A1).toArray) hBb hwd hsz hkeep
     refine⟨?_,(λt m=>if t<=j then c (off+t) m else c (off+(t-1)) m),?_,?_,?_⟩
     ·have h1:(len+1)*k.size<=cap*k.size:=zzh _ hroom
      rw[hsz,hLl];omega
     ·intro t ht' m hm;rw[hLl]at ht';rw[hget];by_cases htj:t<=j
      ·simp only[htj,if_true];have h1:(t+1)*k.size<=(j+1)*k.size:=zzh _ (by omega)
       rw[zzl,Nat.one_mul]at h1;rw[if_neg (by omega)]
       exact hcell t (by omega) m hm
      ·simp only[htj,if_false];have h1:t*k.size=(j+1)*k.size+(t-1-j)*k.size:=by rw[<-zzl];congr 1;omega
       have h2:(t-1-j+1)*k.size<=(len-j)*k.size:=zzh _ (by omega)
       rw[zzl,Nat.one_mul]at h2;rw[if_pos (by omega)]
       have e1:base+off*k.size+t*k.size+m-(base+off*k.size+(j+1)*k.size)=(t-1-j)*k.size+m:=by omega
       rw[e1,hA1g _ (by omega)]
       have h3:=hcell (t-1) (by omega) m hm
       have h4:(t-1)*k.size=j*k.size+(t-1-j)*k.size:=by rw[<-zzl];congr 1;omega
       have e2:base+off*k.size+(t-1)*k.size+m=base+off*k.size+j*k.size+((t-1-j)*k.size+m):=by omega
       rw[e2]at h3;exact h3
     ·intro t ht';have htl:=ht'
      rw[hLl]at htl;by_cases htj:t<=j
      ·simp only[htj,if_true];have e1:(L.take (j+1)++L.drop j)[t]=L[t]'(by omega):=by
        rw[List.getElem_append_left (by rw[zzI];omega),List.getElem_take]
       rw[e1];exact ((hrel t (by omega)).ext hext0).ext hext1
      ·simp only[htj,if_false];have e1:(L.take (j+1)++L.drop j)[t]=L[t-1]'(by omega):=by
        have e2:(L.take (j+1)).length=j+1:=by rw[zzI];omega
        rw[List.getElem_append_right (by omega),List.getElem_drop]
        simp only[e2];congr 1;omega
       rw[e1];exact ((hrel (t-1) (by omega)).ext hext0).ext hext1
     ·intro q hq;exact hnS q (by omega))
    obtain⟨hH1,hlat⟩:=hmv;have hext1:=qhE (S:=S) (B:=B) (cells':=(putAt cells.toList (base+off*k.size+(j+1)*k.size) A1).toArray) hBb hwd hsz hkeep
    have hext:=hext0.trans hext1
    have hS1:Swf (w.drew.setRow blk (putAt cells.toList (base+off*k.size+(j+1)*k.size) A1).toArray) S:=hS.ext hext
    generalize hW1:w.drew.setRow blk (putAt cells.toList (base+off*k.size+(j+1)*k.size) A1).toArray=W1 at hcp1 hH1 hext hS1;generalize hβ1:upd (upd β o BO.dead) H.length (BO.at blk (base+off*k.size) (Obj.sl k 0 (L.take (j+1)++L.drop j)).shape)=β1 at hH1 hlat;have hβid:β1 H.length=.at blk (base+off*k.size) k:=by rw[<-hβ1,qaZ];rfl
    have hsh1:W1.shape? blk=some (e',cells.size):=hext.shape _ _ _ hsh
    have hx1:Ae C W1 S β1 (.r H.length k j (len+1-j) false) (.slice (some ⟨blk,base+off*k.size+j*k.size,none⟩) (len+1-j) (cap-j)):=by
     refine .r _ _ _ _ _ _ rfl ?_;unfold RelRf;rw[hβid];refine⟨rfl,cap-j,_,rfl,λ_=>rfl,by omega,(λh=>by cases h),e',cells.size,hsh1,?_⟩
     have:j+(cap-j)=cap:=by omega
     rw[this];omega
    have hv1:=hvr.ext hext hlat
    have hobj1:Heap.obj (((H++List.replicate 1 none).put o none).put H.length (some (.sl k 0 (L.take (j+1)++L.drop j)))) ov=H.obj ov:=by
     rw[qa0 (λh=>hnv h),qa0 hoo,hov1]
    have hy1:qa4 (((H++List.replicate 1 none).put o none).put H.length (some (.sl k 0 (L.take (j+1)++L.drop j)))) k (.r ov kv offv lv tv)=some [y]:=by
     unfold qa4 at hy⊢;simp only[hobj1];exact hy
    have hob1:Heap.obj (((H++List.replicate 1 none).put o none).put H.length (some (.sl k 0 (L.take (j+1)++L.drop j)))) H.length=some (.sl k 0 (L.take (j+1)++L.drop j)):=qc8 (by rw[qaT];exact hlt)
    have hLl:(L.take (j+1)++L.drop j).length=len+1:=by rw[zzp,zzI,zzJ];omega
    obtain⟨W2,c1,c2,c3,c4⟩:=qr9 (P:=P) (ts := #[ρ.t 24,ρ.t 24]) hH1 hS1 rfl ht hk hx1 hob1 (by rw[hLl];omega) (zzK _) hv1 hy1 (ρ.t 24)
    have e1:min [y].length (len+1-j)=1:=by simp;omega
    rw[e1]at c1 c4;have e2:[y].take 1=[y]:=rfl
    rw[e2,qHv (by omega)]at c4
    have hc47:=hcap47 len hbig
    refine (Go.Proofs.ins_shift hL blk (base+off*k.size) len cap j vb (basev+offv*k.size) capv w W1 W2 hjlt hroom (by omega) hvb ev e0 cellsv.size cells.size (hshape hwv) (hshape hw) (by omega) (hfroz _ hwv) (hfroz _ hwv) hcp1 (λty=>c1)).mono ?_
    rintro e3 w3 ⟨rfl,rfl⟩;refine⟨_,S,β1,rfl,hext.trans c2,c3,?_,hlat,?_,by simp[qaT],?_⟩
    ·have e5:((H++List.replicate 1 none).put o none).put H.length (some (Obj.sl k 0 (L.take (j+1)++L.drop j)))=((H++[none]).put o none).put H.length (some (Obj.sl k 0 (L.take (j+1)++L.drop j))):=rfl
     have e6:∀(X:CP) (p:Nat) (a b:CE Obj),(X.put p a).put p b=X.put p b:=by intro X p a b;simp[Heap.put]
     rw[e6]at c4;exact c4
    ·refine .r _ _ _ _ _ _ rfl ?_;unfold RelRf;rw[hβid];refine⟨rfl,cap,_,rfl,λ_=>by simp,hroom,(λh=>by cases h),e',cells.size,c2.shape _ _ _ hsh1,?_⟩
     rw[Nat.zero_add];omega
    ·intro p h1 h2 h3;rw[<-hβ1,qaD (by omega),qaD (λhq=>by subst hq;exact hnp h3)];exact h3
   ·
    have hcl:cap=len:=by omega
    obtain⟨kz,zv,hkz,hzv,hfz,hrz⟩:=qfa hz;rw[hk]at hkz;cases hkz
    have hzs:zv.cells.size=k.size:=(qls (C:=C) (w:=w) (S:=S) (β:=β) hfz hrz).2
    obtain⟨i0,hi0,hz0⟩:=zza.1 hzv;have hbi:P.bytesOf e=i0.bytes:=by simp[Program.bytesOf,hi0]
    have hki:i0.size=k.size:=by rw[<-qjt hk];simp[Program.cellsOf,hi0]
    have hxj:Ae C w S β (.r o k off j false) (.slice (some ⟨blk,base+off*k.size,none⟩) j cap):=by
     refine .r _ _ _ _ _ _ rfl ?_;unfold RelRf;rw[hbo];exact⟨rfl,cap,_,rfl,λ_=>rfl,by omega,(λh=>by cases h),e',cells.size,hsh,hcapn⟩
    obtain⟨A,hrA⟩:=qnd (P:=P) hH (k:=k) (ys:=L.take j) hxj (by
     have e1:L.take j=(es.drop off).take j:=by rw[<-hL0,List.take_take,Nat.min_eq_left hjl]
     rw[e1];have e2:(K.eq k k&&K.eq k k&&decide (off+j<=es.length))=true:=by
      simp only[zzf,zzq];exact⟨⟨hk1,hk1⟩,by omega⟩
     simp only[qa4,ho,e2,if_true])
    have hLj:(L.take j).length=j:=by rw[zzI];omega
    have hold:=hrA.drew
    rw[hLj]at hold;have hAl:A.length=j*k.size:=by have:=hrA.size;rw[hLj]at this;exact this
    have hjk:j+(len+1-j)=len+1:=by omega
    have hfit:=growslice_fits (need:=len+1) (old:=cap) (bytes:=i0.bytes) (by omega) (by rw[<-hbi];exact zzL hbig (by decide))
    have hrz1:∀ty,(Builtin.append_ #[ρ.t 24,ρ.t 3] ty #[.slice (some ⟨blk,base+off*k.size,none⟩) j cap,.int .i64 ((len:Int)+1-(j:Int))]).run P w =
      .ok (.slice (some ⟨w.heap.size,0,none⟩) (len+1) (grownCap w (len+1) cap e)) (w.drew.alloc (.cells (A.toArray++Builtin.zeroCells zv.cells (len+1-j)++Builtin.zeroCells zv.cells (grownCap w (len+1) cap e-(len+1))) e)):=by
     intro ty;have hkk:(len:Int)+1-(j:Int)=((len+1-j:Nat):Int):=by omega
     have h48:(len+1-j)*i0.bytes<=281474976710656:=by
      have:(len+1-j)*i0.bytes<=(len+1)*i0.bytes:=zzh _ (by omega)
      rw[hbi]at hbig;omega
     have h:=Lib.run_append_grow_zeros w (ρ.t 24) (ρ.t 3) ty e i0 zv .i64 .i64 ht hL.t3 hi0 hz0 (some ⟨blk,base+off*k.size,none⟩) j cap A (by rw[hki];exact hold) (len+1-j) (by omega) (by omega) (by omega) (by have:=hcap47 len hbig;omega) h48 (by rw[hjk];exact hfit)
     rw[hjk]at h;rw[hkk];exact h
    have hGn:len+1<=grownCap w (len+1) cap e:=grownCap_ge w _ _ _
    generalize hG0:grownCap w (len+1) cap e=GC at hrz1 hGn;have hzr:=qq1 (w:=w) (S:=S) (n:=len+1-j) hfz hrz zv.cells (λ_=>rfl)
    have hzc:((Array.range ((len+1-j)*k.size)).map (zv.cells[· % zv.cells.size]!)).toList=(Builtin.zeroCells zv.cells (len+1-j)).toList:=by
     unfold Builtin.zeroCells;rw[hzs]
    rw[hzc]at hzr;have hzl:(Builtin.zeroCells zv.cells (len+1-j)).toList.length=(List.replicate (len+1-j) z).length*k.size:=by
     rw[Array.length_toList,qq0,hzs,List.length_replicate]
    have hrow:=((hrA.rel.append hrA.size (hzr)).ext (qbE (B:=B))).pad (A':=(Builtin.zeroCells zv.cells (GC-(len+1))).toList)
    have hSd:Swf w.drew S:=hS.ext (qbE (B:=B))
    obtain⟨a1,a2,a3,a4⟩:=qqc hg.drew hSd hB hp hlt hrow e 0 (len:=len+1) (cap:=GC) (tt:=false) (by
     have h1:=qq0 zv.cells (GC-(len+1))
     rw[hzs]at h1;simp only[zzp,h1,hAl,hzl,List.length_replicate,Array.length_toList];rw[<-zzl,<-zzl];exact zzh _ (by omega)) hGn (λh=>by cases h)
    have e1:(A++(Builtin.zeroCells zv.cells (len+1-j)).toList++(Builtin.zeroCells zv.cells (GC-(len+1))).toList).toArray=A.toArray++Builtin.zeroCells zv.cells (len+1-j)++Builtin.zeroCells zv.cells (GC-(len+1)):=by
     apply Array.ext';simp
    rw[e1]at a1 a2 a4;have hext:Ext B w S _ S:=(qbE (B:=B)).trans a1
    have hS1:=hSd.ext a1
    have hM:w.drew.heap.size=w.heap.size:=rfl
    rw[hM]at a2 a3 a4;generalize hW1:w.drew.alloc (.cells (A.toArray++Builtin.zeroCells zv.cells (len+1-j)++Builtin.zeroCells zv.cells (GC-(len+1))) e)=W1 at hrz1 a1 a2 a4 hext hS1;generalize hβ1:upd β H.length (BO.at w.heap.size 0 k)=β1 at a2 a3 a4;have hβid:β1 H.length=.at w.heap.size 0 k:=by rw[<-hβ1,qaZ]
    have hβo:β1 o=.at blk base k:=by rw[<-hβ1,qaD (λh=>hno h.symm)];exact hbo
    obtain⟨ee,nn,hshM,hshN⟩:∃ee nn,W1.shape? w.heap.size=some (ee,nn)/\GC*k.size<=nn:=by
     cases a4 with
     |r _ _ _ _ _ _ _ hx=>
     unfold RelRf at hx;rw[hβid]at hx;obtain⟨-,cap1,a,h1,-,-,-,e5,n5,h5,h6⟩:=hx;cases h1;refine⟨e5,n5,h5,?_⟩;simpa using h6
    generalize hes1:L.take j++List.replicate (len+1-j) z=es1 at a2;have hel:es1.length=len+1:=by rw[<-hes1,zzp,hLj,List.length_replicate];omega
    have hob1:Heap.obj ((H++List.replicate 1 none).put H.length (some (.sl k 0 es1))) H.length=some (.sl k 0 es1):=qc8 hlt
    have hoo1:∀q,q≠H.length->Heap.obj ((H++List.replicate 1 none).put H.length (some (.sl k 0 es1))) q=H.obj q:=λq hq=>by rw[qa0 (λh=>hq h.symm),qqh]
    have hv1:=hvr.ext hext a3
    have hy1:qa4 ((H++List.replicate 1 none).put H.length (some (.sl k 0 es1))) k (.r ov kv offv lv tv)=some [y]:=by
     unfold qa4 at hy⊢;simp only[hoo1 ov (λh=>hnv h.symm)]
     exact hy
    have hgk:∀q,q<=GC->q*k.size+(GC-q)*k.size=GC*k.size:=λq hq=>by rw[<-zzl];congr 1;omega
    have hx1:Ae C W1 S β1 (.r H.length k j (len+1-j) false) (.slice (some ⟨w.heap.size,j*k.size,none⟩) (len+1-j) (GC-j)):=by
     refine .r _ _ _ _ _ _ rfl ?_;unfold RelRf;rw[hβid];refine⟨rfl,GC-j,_,rfl,λ_=>by rw[Nat.zero_add],by omega,(λh=>by cases h),ee,nn,hshM,?_⟩
     rw[zzl,Nat.zero_add,hgk j (by omega)];exact hshN
    obtain⟨W2,c1,c2,c3,c4⟩:=qr9 (P:=P) (ts := #[ρ.t 24,ρ.t 24]) a2 hS1 rfl ht hk hx1 hob1 (by rw[hel];omega) (zzK _) hv1 hy1 (ρ.t 24)
    have e2:min [y].length (len+1-j)=1:=by simp;omega
    rw[e2]at c1 c4;have e3:[y].take 1=[y]:=rfl
    rw[e3]at c4;have hpp:∀(X:CP) (p:Nat) (a b:CE Obj),(X.put p a).put p b=X.put p b:=by intro X p a b;simp[Heap.put]
    rw[hpp]at c4;have hel2:(putAt es1 j [y]).length=len+1:=by rw[qcB (by rw[hel];simp;omega),hel]
    have hext2:Ext B w S W2.drew S:=(hext.trans c2).trans qbE
    have hext12:Ext B W1 S W2.drew S:=c2.trans qbE
    have hx2:Ae C W2.drew S β1 (.r H.length k (j+1) (len-j) false) (.slice (some ⟨w.heap.size,(j+1)*k.size,none⟩) (len-j) (GC-(j+1))):=by
     refine .r _ _ _ _ _ _ rfl ?_;unfold RelRf;rw[hβid];refine⟨rfl,GC-(j+1),_,rfl,λ_=>by rw[Nat.zero_add],by omega,(λh=>by cases h),ee,nn,hext12.shape _ _ _ hshM,?_⟩
     rw[zzl,Nat.zero_add,hgk (j+1) (by omega)];exact hshN
    have hs2:Ae C W2.drew S β1 (.r o k (off+j) (len-j) false) (.slice (some ⟨blk,base+off*k.size+j*k.size,none⟩) (len-j) (cap-j)):=by
     refine .r _ _ _ _ _ _ rfl ?_;unfold RelRf;rw[hβo];refine⟨rfl,cap-j,_,rfl,λ_=>by rw[zzl,Nat.add_assoc],by omega,(λh=>by cases h),e',cells.size,hext2.shape _ _ _ hsh,?_⟩
     have:off+j+(cap-j)=off+cap:=by omega
     rw[this];exact hcapn
    have hob2:Heap.obj ((H++List.replicate 1 none).put H.length (some (.sl k 0 (putAt es1 j [y])))) H.length=some (.sl k 0 (putAt es1 j [y])):=qc8 hlt
    have hy2:qa4 ((H++List.replicate 1 none).put H.length (some (.sl k 0 (putAt es1 j [y])))) k (.r o k (off+j) (len-j) false)=some (L.drop j):=by
     have h1:Heap.obj ((H++List.replicate 1 none).put H.length (some (.sl k 0 (putAt es1 j [y])))) o=some (.sl k ro es):=by rw[qa0 hno,ho1]
     have h2:(K.eq k k&&K.eq k k&&decide (off+j+(len-j)<=es.length))=true:=by
      simp only[zzf,zzq];exact⟨⟨hk1,hk1⟩,by omega⟩
     simp only[qa4,h1,h2,if_true,<-hL0];rw[List.drop_take,List.drop_drop]
    obtain⟨W3,d1,d2,d3,d4⟩:=qr9 (P:=P) (ts := #[ρ.t 24,ρ.t 24]) c4.drew (c3.ext (qbE (B:=B))) rfl ht hk hx2 hob2 (by rw[hel2];omega) (zzK _) hs2 hy2 (ρ.t 24)
    have hdl:(L.drop j).length=len-j:=by rw[zzJ];omega
    have e4:min (L.drop j).length (len-j)=len-j:=by omega
    rw[e4]at d1 d4;have e5:(L.drop j).take (len-j)=L.drop j:=zzv (by omega)
    rw[e5,hpp,<-hes1]at d4;have e6:len+1-j=L.length+1-j:=by rw[hpl]
    rw[e6,qHt (by omega)]at d4
    have hc47:=hcap47 len hbig
    refine (Go.Proofs.ins_grow hL blk (base+off*k.size) len cap j capv w.heap.size GC ⟨vb,basev+offv*k.size,none⟩ w W1 W2 W3 hjlt hcap (by omega) (by omega) hGn hrz1 (λty=>c1) (λty=>d1)).mono ?_
    rintro e7 w3 ⟨rfl,rfl⟩;have holt2:o<((H++List.replicate 1 none).put H.length (some (.sl k 0 (L.take j++y::L.drop j)))).length:=by rw[qaT,zzp];omega
    obtain⟨k1,k2⟩:=qsT d4 o holt2;have hlat2:=a3.trans (k2 (by rw[hβo];simp))
    refine⟨_,S,upd β1 o .dead,rfl,(hext2.trans d2),d3,?_,hlat2,?_,by simp[qaT],?_⟩
    ·have e8:((H++List.replicate 1 none).put H.length (some (Obj.sl k 0 (L.take j++y::L.drop j)))).put o none=((H++[none]).put o none).put H.length (some (Obj.sl k 0 (L.take j++y::L.drop j))):=by
      show List.set (List.set (H++[none]) _ _) _ _=List.set (List.set (H++[none]) _ _) _ _
      exact (List.set_comm _ _ hno).symm▸rfl
     rw[<-e8];exact k1
    ·refine .r _ _ _ _ _ _ rfl ?_;unfold RelRf;rw[qaD hno,hβid];refine⟨rfl,GC,_,rfl,λ_=>by simp,hGn,(λh=>by cases h),ee,nn,d2.shape _ _ _ (hext12.shape _ _ _ hshM),?_⟩
     simpa using hshN
    ·intro p h1 h2 h3;rw[qaD (λhq=>by subst hq;exact hnp h3),<-hβ1,qaD (by omega)];exact h3
 ·
  split at h;case isFalse=>cases h
  rename_i hc;simp only[zzf,zzq]at hc;obtain⟨rfl,hb⟩:=hc;simp only[zzb,zzc]at h;obtain⟨rfl,rfl⟩:=h;rename_i k0 _;obtain⟨a,rfl⟩:∃a,ux=.slice a 0 0:=by
   cases hxr with
   |d _ _ hx=>
   cases hx with
   |l _ _ _ a cap blk off c c1 c2 c3 c4 c5=>have:=c2 rfl;simp at this;subst this;exact⟨a,rfl⟩
  obtain⟨ur,w',e1,e2⟩:=qrK (P:=P) (ts := #[ρ.t 24,ρ.t 24]) (id:=H.length) hg hS hB hp hlt rfl rfl ht hk (.inl ⟨_,ht⟩) hz hb0 (ρ.t 24) (y:=.r ov kv offv lv tv) hxr hvr (v:=.r H.length k 0 1 false) (H':=(H++[none]).put H.length (some (.sl k 0 [y]))) (by
   have hy1:=qxH 1 hy
   unfold qbU;rw[hy1];have:(([]:Ct).length+[y].length)*P.bytesOf e<=2^47:=by simpa using hb
   simp only[if_true,this];rfl)
  refine (Go.Proofs.ins_end hL a 0 0 capv _ ur w w' (zzt _) (λty=>e1)).mono ?_
  rintro e3 w3 ⟨rfl,rfl⟩;obtain⟨S',β',g1,g2,g3,g4,g5,g6,g7⟩:=qAb rfl e2;exact⟨ur,S',β',rfl,g1,g2,g3,g4,g5,g6,g7⟩
 ·cases h
