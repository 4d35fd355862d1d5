/- Part 6 of the proof. -/
import Derived.Test.YtpfeklkomlghlaaGreatDoorB5
import Derived.OrdersIn
import Derived.LoopNIn
import Derived.Shelf.Strconv.Itoa3
set_option linter.all false
namespace Go.Sim
set_option maxRecDepth 100000
set_option maxHeartbeats 8000000
section
open Go.RowKit
def qcR(fr:Fr)(d:CK Nat)(v:PV):Fr:=match d with|some t=>fr.set t v|none=>fr
def gd(o:Ap)(fr:Fr):CK CO:=match o.g with
 |none=>some true
 |some (t,want)=>match fr.get t with
  |.d (.b b)=>some (b==want)
  |.t []=>some false
  |_=>none
def qvb{E:Env}{o:Ap}{id:Nat}{s s':St}(h:Bi E o id s=some s') :
  (gd o s.fr=some true/\∃v H',qaq E (rd E s.fr) s.H id o.op=some (v,H')/\s'=⟨qcR s.fr o.dst v,H'⟩)\/(gd o s.fr=some false/\s'=⟨qcR s.fr o.dst (.t []),s.H⟩):=by
 have hgo:∀x,(match qaq E (rd E s.fr) s.H id o.op with
   |some (v,H)=>some (⟨match o.dst with|some t=>s.fr.set t v|none=>s.fr,H⟩:St)
   |none=>none)=some x->∃v H',qaq E (rd E s.fr) s.H id o.op=some (v,H')/\x=⟨qcR s.fr o.dst v,H'⟩:=by
  intro x hx;split at hx
  ·rename_i v H he;cases hx;exact⟨v,H,he,rfl⟩
  ·cases hx
 unfold Bi at h;unfold gd;simp only at h;split at h
 ·rename_i hg;rw[hg];exact .inl ⟨rfl,hgo _ h⟩
 ·rename_i t want hg;rw[hg];simp only;split at h
  ·rename_i b hb;simp only[hb];split at h
   ·rename_i hw;exact .inl ⟨by simp[hw],hgo _ h⟩
   ·rename_i hw;have:(b==want)=false:=by simpa using hw
    cases h;exact .inr ⟨by simp[this],rfl⟩
  ·rename_i hb;simp only[hb];cases h;exact .inr ⟨by simp,rfl⟩
  ·cases h
def qmY(fr:Fr)(d:CK Nat)(v:PV)(t:Nat):(qcR fr d v).get t=if d=some t then v else fr.get t:=by
 cases d with
 |none=>simp[qcR]
 |some d=>
  simp only[qcR,qdu,zzb];by_cases h:t=d
  ·subst h;simp
  ·rw[if_neg h,if_neg (λe=>h e.symm)]
def qAE:∀(L:CL Ap) (i:Nat) (h:i<L.length),qar (L.take (i+1))=qar (L.take i)+(if L[i].op.adds then 1 else 0)
 |[],i,h=>absurd h (zzm _)
 |o::L,0,_=>by simp[qar]
 |o::L,i+1,h=>by have:=qAE L i (by simpa using h);simp only[List.take_succ_cons,qar,zzG]at this⊢;rw[this];omega
def qtC(L:CL Ap):∀i,qar (L.take i)<=qar L:=by
 induction L with
 |nil=>intro i;simp[qar]
 |cons o L ih=>
  intro i;cases i with
  |zero=>simp[qar]
  |succ i=>simp only[List.take_succ_cons,qar];have:=ih i;omega
section
variable {α:Type}(w:Nat->Nat->CO)(v:Nat->Nat->α)(z:Nat->α)
def GF(S:Nat->CO):Nat->Nat->α
 |0,t=>z t
 |j+1,t=>if S j&&w j t then v j t else GF S j t
variable {w v z}
def qeI{S S':Nat->CO}{t:Nat}:∀{m:Nat},(∀j,j<m->w j t=true->S j=S' j)->GF w v z S m t=GF w v z S' m t
 |0,_=>rfl
 |m+1,h=>by
  simp only[GF];cases hw:w m t with
  |true=>rw[h m (Nat.lt_succ_self m) hw,qeI (λj hj=>h j (Nat.lt_succ_of_lt hj))]
  |false=>simp only[Bool.and_false,zzg,if_false];exact qeI (λj hj=>h j (Nat.lt_succ_of_lt hj))
def qqL{t i:Nat}:∀{m:Nat},i<=m->GF w v z (λj=>decide (j<i)) m t=GF w v z (λ_=>true) i t
 |0,h=>by
  have:i=0:=by omega
  subst this;rfl
 |m+1,h=>by
  by_cases hm:i=m+1
  ·subst hm;exact qeI (λj hj _=>by simpa using hj)
  ·simp only[GF];have:decide (m<i)=false:=by simp;omega
   simp only[this,Bool.false_and,zzg,if_false];exact qqL (by omega)
def qqN{x:Nat->Nat->α}{n t:Nat}(h0:x 0 t=z t)(h1:∀i,i<n->w i t=true->v i t=x (i+1) t)(h2:∀i,i<n->w i t=false->x (i+1) t=x i t):∀i,i<=n->x i t=GF w v z (λ_=>true) i t
 |0,_=>h0
 |i+1,hi=>by
  simp only[GF,Bool.true_and];cases hw:w i t with
  |true=>rw[if_pos rfl,h1 i (by omega) hw]
  |false=>rw[h2 i (by omega) hw];simp only[zzg,if_false];exact qqN h0 h1 h2 i (by omega)
def qqM{S:Nat->CO}{i t:Nat}:∀{m:Nat},i<m->S i=false->(∀j,i<j->j<m->w j t=true->w i t=true->S j=false)->
  GF w v z (λj=>S j||j==i) m t=if w i t then v i t else GF w v z S m t
 |0,h,_,_=>absurd h (zzm _)
 |m+1,h,hS,hlast=>by
  by_cases hm:i=m
  ·subst hm;simp only[GF,BEq.rfl,Bool.or_true,Bool.true_and];cases hw:w i t with
   |true=>rfl
   |false=>
    simp only[Bool.and_false,zzg,if_false];exact qeI (λj hj _=>by
     have:(j==i)=false:=by simp;omega
     simp[this])
  ·have hlt:i<m:=by omega
   have hmi:(m==i)=false:=by simp;omega
   have ih:=qqM (S:=S) (t:=t) hlt hS (λj h1 h2 h3 h4=>hlast j h1 (by omega) h3 h4);simp only[GF,hmi,Bool.or_false];rw[ih];cases hw:w i t with
   |true=>
    rw[if_pos rfl,if_pos rfl];split
    ·rename_i hc;simp only[zzf]at hc;have:=hlast m hlt (Nat.lt_succ_self m) hc.2 hw;rw[this]at hc;simp at hc
    ·rfl
   |false=>simp
end
def qdO(H:CW)(o p:Nat)(x:CK Obj):(H.put p x).obj o=if o=p/\p<H.length then x else H.obj o:=by
 by_cases hp:o=p
 ·subst hp;by_cases hl:o<H.length
  ·rw[if_pos ⟨rfl,hl⟩,qdv hl]
  ·rw[if_neg (λh=>hl h.2)];have e1:(H.put o x).length=H.length:=qa2 _ _ _;unfold Heap.obj;rw[List.getElem?_eq_none (by omega),List.getElem?_eq_none (by omega)]
 ·rw[if_neg (λh=>hp h.1),qa7 (λh=>hp h.symm)]
def qGh{os:CF}{o:Nat}(h:o∉os)(x:CK Obj):qgt os o x=x:=by
 unfold qgt;split
 ·rw[if_neg (by simpa using h)]
 ·rfl
def qvc{ρ:Ab->PV}{x:IOp}{o:Nat}(h:o∈qaP ρ x):o∈qas ρ x:=by cases x<;>simp_all[qaP,qas]
section
variable {ρ:Ab->PV}{x:IOp}{id:Nat}{F:CW->CW}{H H2:CW}{o:Nat}
def qx7(hF:qiA ρ x id F)(H:CW):(F H).length=H.length:=by obtain⟨os,-,rfl|⟨y,-,rfl⟩|⟨p,y,-,-,rfl⟩|⟨p,y,-,-,rfl⟩⟩:=hF<;>simp[qa2,qdt]
def qx8(hF:qiA ρ x id F)(h1:o∉qas ρ x)(h2:¬(x.adds=true/\o=id)):(F H).obj o=H.obj o:=by
 obtain⟨os,h0,h⟩:=hF;have hf:(frz H os).obj o=H.obj o:=by rw[qea];exact qGh (λh=>h1 (h0 o h)) _
 rcases h with rfl|⟨y,ha,rfl⟩|⟨p,y,-,hp,rfl⟩|⟨p,y,hp,ha,rfl⟩
 ·exact hf
 ·simp only[qdO];rw[if_neg (λh=>h2 ⟨ha,h.1⟩)];exact hf
 ·simp only[qdO];rw[if_neg (λ(h:o=p/\_)=>h1 (h.1▸qvc hp))];exact hf
 ·simp only[qdO];rw[if_neg (λh=>h2 ⟨ha,h.1⟩),if_neg (λ(h:o=p/\_)=>h1 (h.1▸qvc hp))]
def qx6(hF:qiA ρ x id F)(hT:∀o∈qas ρ x,H2.obj o=H.obj o)(hid:x.adds=true->H2.obj id=H.obj id)(hl:H2.length=H.length)(h1:o∈qas ρ x\/(x.adds=true/\o=id)):(F H2).obj o=(F H).obj o:=by
 obtain⟨os,h0,h⟩:=hF;have ho:H2.obj o=H.obj o:=by
  rcases h1 with h1|⟨h1,rfl⟩
  ·exact hT o h1
  ·exact hid h1
 have hf:(frz H2 os).obj o=(frz H os).obj o:=by rw[qea,qea,ho]
 rcases h with rfl|⟨y,ha,rfl⟩|⟨p,y,-,hp,rfl⟩|⟨p,y,hp,ha,rfl⟩
 ·exact hf
 ·simp only[qdO,qdt,hl];rw[hf]
 ·simp only[qdO,qdt,hl];rw[hf]
 ·simp only[qdO,qa2,hl];rw[ho]
def qGc(hF:qiA ρ x id F)(h1:o∉qaP ρ x)(h2:¬(x.adds=true/\o=id))(hr:qaY (H.obj o)=qaY ((F H).obj o)):(F H).obj o=H.obj o:=by
 obtain⟨os,h0,h⟩:=hF;have hf:(F H).obj o=qgt os o (H.obj o)\/(F H).obj o=H.obj o:=by
  rw[<-qea];rcases h with rfl|⟨y,ha,rfl⟩|⟨p,y,-,hp,rfl⟩|⟨p,y,hp,ha,rfl⟩
  ·exact .inl rfl
  ·simp only[qdO];rw[if_neg (λh=>h2 ⟨ha,h.1⟩)];exact .inl rfl
  ·simp only[qdO];rw[if_neg (λ(h:o=p/\_)=>h1 (h.1▸hp))];exact .inl rfl
  ·simp only[qdO];rw[if_neg (λh=>h2 ⟨ha,h.1⟩),if_neg (λ(h:o=p/\_)=>h1 (h.1▸hp))];exact .inr rfl
 rcases hf with hf|hf
 case inr=>exact hf
 rw[hf]at hr⊢;cases ho:H.obj o with
 |none=>rfl
 |some x=>
  cases x with
  |sl k ro es=>rw[ho]at hr;simp only[qgt,qaY]at hr⊢;rw[<-hr]
  |_=>rfl
end
def qrN{H H':CW}{o:Nat}:∀{l:CF},o∈l->o∉chg H H' l->qaY (H.obj o)=qaY (H'.obj o)
 |[],h,_=>absurd h (zzC)
 |p::r,h,hn=>by
  simp only[chg]at hn;split at hn
  ·rename_i hb;rcases List.mem_cons.1 h with rfl|h
   ·exact zzy hb
   ·exact qrN h hn
  ·rcases List.mem_cons.1 h with rfl|h
   ·exact absurd (zzr ..) hn
   ·exact qrN h (λhm=>hn (zzi _ hm))
def qrO{H H':CW}{o:Nat}:∀{l:CF},o∈chg H H' l->o∈l
 |[],h=>by cases h
 |p::r,h=>by
  simp only[chg]at h;split at h
  ·exact zzi _ (qrO h)
  ·rcases List.mem_cons.1 h with rfl|h
   ·exact zzr ..
   ·exact zzi _ (qrO h)
def qkF{o:Ap}{fr:Fr}{b:CO}(h:gd o fr=some b):runs o fr=b:=by
 unfold gd at h;unfold runs;cases hg:o.g with
 |none=>rw[hg]at h;simpa using h
 |some p=>
  obtain⟨t,want⟩:=p;rw[hg]at h;simp only at h⊢;split at h
  ·rename_i hb;rw[hb];simpa using h
  ·rename_i hb;rw[hb];simpa using h
  ·cases h
def qxq{a b:CF}(h:qaX a b=true){o:Nat}(ha:o∈a):o∉b:=by have:=List.all_eq_true.1 h o ha;simpa using this
def WW(E:Env)(L:CL Ap)(id:Nat)(st:Nat->St)(k:Nat):CF:=Ar E (L.getD k default) (id+qar (L.take k)) (st k) (st (k+1))
def TT(E:Env)(L:CL Ap)(id:Nat)(st:Nat->St)(k:Nat):CF:=WW E L id st k++Az E (L.getD k default) (st k)
def qA7{b:Nat}{t w:CF}:∀{l:CL (CF×CF)} {k:Nat},qaM b k l t w=true->∀i (h:i<l.length),(qaX l[i].2 t=true/\qaX w l[i].1=true)\/b.testBit (k+i)=true
 |[],k,_,i,h=>absurd h (zzm _)
 |x::r,k,hp,i,h=>by
  simp only[qaM,zzf,Bool.or_eq_true]at hp;cases i with
  |zero=>exact hp.1.symm
  |succ i=>have:=qA7 hp.2 i (by simpa using h);rw[show k+(i+1)=k+1+i by omega];exact this
def qCD{E:Env}:∀(L:CL Ap) (bf:CF) (acc:CL (CF×CF)) (id:Nat) (s s':St),qbW E L bf acc id s=some s'->∃st:Nat->St,st 0=s/\st L.length=s'/\(∀i (h:i<L.length),Bi E L[i] (id+qar (L.take i)) (st i)=some (st (i+1)))/\
  ∀j,j<L.length->qaM (bf.getD j 0) 0 (acc++(List.range j).map λk=>(TT E L id st k,WW E L id st k)) (TT E L id st j) (WW E L id st j)=true
 |[],bf,acc,id,s,s',h=>by cases h;exact⟨λ_=>s,rfl,rfl,λi h=>absurd h (zzm _),λi h=>absurd h (zzm _)⟩
 |o::L,bf,acc,id,s,s',h=>by
  simp only[qbW]at h;split at h
  ·rename_i s1 h1;split at h
   ·rename_i hp;obtain⟨st,q1,q2,q3,q4⟩:=qCD L _ _ _ s1 s' h;let st':Nat->St:=λi=>match i with|0=>s|i+1=>st i
    have e:∀i,id+qar (o::L.take i)=(if o.op.adds then id+1 else id)+qar (L.take i):=λi=>by simp only[qar];split<;>omega
    have hW0:WW E (o::L) id st' 0=Ar E o id s s1:=by show Ar E o (id+qar []) s (st 0)=_;rw[q1];rfl
    have hT0:TT E (o::L) id st' 0=Ar E o id s s1++Az E o s:=by unfold TT;rw[hW0];rfl
    have hWs:∀k,WW E (o::L) id st' (k+1)=WW E L (if o.op.adds then id+1 else id) st k:=λk=>by show Ar E (L.getD k default) (id+qar (o::L.take k)) (st k) (st (k+1))=_;rw[e];rfl
    have hTs:∀k,TT E (o::L) id st' (k+1)=TT E L (if o.op.adds then id+1 else id) st k:=λk=>by unfold TT;rw[hWs];rfl
    refine⟨st',rfl,q2,?_,?_⟩
    ·intro i hi;cases i with
     |zero=>simpa[qar,q1,st']using h1
     |succ i=>have:=q3 i (by simpa using hi);simp only[zzG,List.take_succ_cons];rw[e];exact this
    ·intro j hj;cases j with
     |zero=>rw[hT0,hW0];simpa[List.headD_eq_head?_getD,List.getD,List.head?_eq_getElem?]using hp
     |succ j=>
      have:=q4 j (by simpa using hj);rw[hTs,hWs,List.range_succ_eq_map,zzu,List.map_map];have e2:(List.range j).map ((λk=>(TT E (o::L) id st' k,WW E (o::L) id st' k))∘Nat.succ)=(List.range j).map λk=>(TT E L (if o.op.adds then id+1 else id) st k,WW E L (if o.op.adds then id+1 else id) st k):=by apply List.map_congr_left;intro k _;show (TT E (o::L) id st' (k+1),WW E (o::L) id st' (k+1))=_;rw[hTs,hWs]
      rw[e2,hT0,hW0];have e3:bf.getD (j+1) 0=bf.tail.getD j 0:=by cases bf<;>rfl
      rw[e3];simpa[zzM]using this
   ·cases h
  ·cases h
section
variable (L:CL Ap)(st:Nat->St)(id0:Nat)
def qb6(i:Nat):Nat:=id0+qar (L.take i)
variable {L st id0}{E:Env}
def qqx(htr:∀i (h:i<L.length),Bi E L[i] (id0+qar (L.take i)) (st i)=some (st (i+1))){i:Nat}(hi:i<L.length):(st (i+1)).H.length=(st i).H.length/\∀o,o∉WW E L id0 st i->(st (i+1)).H.obj o=(st i).H.obj o:=by
 have hg:L.getD i default=L[i]:=by simp[List.getD,zze hi]
 have hs:=htr i hi;rcases qvb hs with ⟨hgd,v,H',he,h⟩|⟨hgd,h⟩
 ·cases hk:L[i].op.okD (rd E (st i).fr)with
  |false=>
   obtain⟨-,hl⟩:=qwD hk he;have hH:(st (i+1)).H=H':=by rw[h]
   refine⟨by rw[hH];exact hl,λo ho=>?_⟩;unfold WW Ar at ho;rw[hg,qkF hgd]at ho;simp only[if_true,hk,zzg,if_false,zzB,not_or]at ho;by_cases hm:o<(st i).H.length
   ·exact (qrM (List.mem_range.2 hm) ho.2).symm
   ·rw[qAR (show (st (i+1)).H.length<=o by rw[hH,hl];omega),qAR (show (st i).H.length<=o by omega)]
  |true=>
  obtain⟨F,hF,rfl,-⟩:=qAV hk he;have hH:(st (i+1)).H=F (st i).H:=by rw[h]
  refine⟨by rw[hH];exact qx7 hF _,λo ho=>?_⟩;unfold WW Ar at ho;rw[hg,qkF hgd]at ho;simp only[if_true,hk,zzB,not_or]at ho;obtain⟨h1,h2,h3⟩:=ho;have h1':¬(L[i].op.adds=true/\o=id0+qar (L.take i)):=by rintro⟨a,b⟩;rw[if_pos a]at h1;exact h1 (by rw[b];exact zzH.2 rfl)
  rw[hH]at h3⊢;by_cases hm:o∈qas (rd E (st i).fr) L[i].op
  ·exact qGc hF h2 h1' (qrN hm h3)
  ·exact qx8 hF hm h1'
 ·have hH:(st (i+1)).H=(st i).H:=by rw[h]
  rw[hH];exact⟨rfl,λ_ _=>rfl⟩
def qCE(htr:∀i (h:i<L.length),Bi E L[i] (id0+qar (L.take i)) (st i)=some (st (i+1))):∀i,i<=L.length->(st i).H.length=(st 0).H.length
 |0,_=>rfl
 |i+1,hi=>((qqx htr (show i<L.length by omega)).1).trans (qCE htr i (by omega))
def wF(L:CL Ap)(j t:Nat):CO:=(L.getD j default).dst==some t
def qP3(htr:∀i (h:i<L.length),Bi E L[i] (id0+qar (L.take i)) (st i)=some (st (i+1))){i:Nat}(hi:i<L.length){t:Nat}(h:wF L i t=false):(st (i+1)).fr.get t=(st i).fr.get t:=by
 have hg:L.getD i default=L[i]:=by simp[List.getD,zze hi]
 have hd:L[i].dst≠some t:=by unfold wF at h;rw[hg]at h;simpa using h
 rcases qvb (htr i hi)with ⟨-,v,H',-,h⟩|⟨-,h⟩<;>rw[h,qmY,if_neg hd]
def TF(L:CL Ap)(st:Nat->St)(S:Nat->CO)(m t:Nat):PV:=GF (wF L) (λj t=>(st (j+1)).fr.get t) (λt=>(st 0).fr.get t) S m t
def HF(E:Env)(L:CL Ap)(id0:Nat)(st:Nat->St)(S:Nat->CO)(m o:Nat):CK Obj:=GF (λj o=>(WW E L id0 st j).contains o) (λj o=>(st (j+1)).H.obj o) (λo=>(st 0).H.obj o) S m o
def qv7(htr:∀i (h:i<L.length),Bi E L[i] (id0+qar (L.take i)) (st i)=some (st (i+1)))(t i:Nat)(hi:i<=L.length):(st i).fr.get t=TF L st (λ_=>true) i t:=
 qqN (x:=λi t=>(st i).fr.get t) (n:=L.length) rfl (λ_ _ _=>rfl) (λ_i hi hw=>qP3 htr hi hw) i hi
def qvU(htr:∀i (h:i<L.length),Bi E L[i] (id0+qar (L.take i)) (st i)=some (st (i+1)))(o i:Nat)(hi:i<=L.length):(st i).H.obj o=HF E L id0 st (λ_=>true) i o:=
 qqN (x:=λi o=>(st i).H.obj o) (n:=L.length) rfl (λ_ _ _=>rfl) (λi hi hw=>(qqx htr hi).2 o (by simpa using hw)) i hi
end
def qrW{p p':Nat->CO}{i:Nat}:∀{l:CF},(∀j∈l,p' j=true->p j=true)->i∈l->p i=true->p' i=false->l.countP p'<l.countP p
 |[],_,h,_,_=>(zzC h).elim
 |x::l,hle,hi,h1,h2=>by
  simp only[List.countP_cons];have hm:l.countP p'<=l.countP p:=List.countP_mono_left (λj hj=>hle j (zzi _ hj));rcases List.mem_cons.1 hi with rfl|hi
  ·rw[h1,h2];simp;omega
  ·have:=qrW (λj hj=>hle j (zzi _ hj)) hi h1 h2;have hx:=hle x (zzr ..);cases hp:p' x with
   |true=>rw[hx hp];simp;omega
   |false=>cases p x<;>simp<;>omega
def qoA{x y:Ap}(h:qmv x y=true):(∀d,x.dst=some d->d∉y.uses/\y.dst≠some d)/\(∀d,y.dst=some d->d∉x.uses):=by
 unfold qmv at h;simp only[zzf]at h;obtain⟨h1,h2⟩:=h;refine⟨?_,?_⟩
 ·intro d hd;rw[hd]at h1;simpa using h1
 ·intro d hd;rw[hd]at h2;simpa using h2
def qpm{L:CL Ap}{id0 i k:Nat}(hi:i<L.length)(ha:(L.getD i default).op.adds=true)(hk:i<k):qb6 L id0 i<qb6 L id0 k:=by
 have hg:L.getD i default=L[i]:=by simp[List.getD,zze hi]
 rw[hg]at ha;have h1:=qAE L i hi;rw[if_pos ha]at h1;have h2:qar (L.take (i+1))<=qar (L.take k):=by
  have:L.take (i+1)=(L.take k).take (i+1):=by rw[List.take_take,Nat.min_eq_left hk]
  rw[this];exact qtC _ _
 unfold qb6;omega
section
variable {P:CV}{N:Names}{C:Cx}{B base nt:Nat}{E:Env}{ro:CK Nat}{nf:Nat}
def qvz{ops:Array Oper}{o:Oper}{fr:Fr}{w:CU}{S:qad}{β:Pl}{a:Act}(hf:FOK C w S β fr a){x:IOp}{g:CK (Nat×CO)}(hg:qeq ops o.guard=some g){b:CO}(h:gd ⟨o.dst,x,g⟩ fr=some b) :
  Region.wanted o (yielded ops a.tmps)=b:=by
 cases hgo:o.guard with
 |none=>rw[hgo]at hg;simp only[qeq,zzb]at hg;subst hg;simp only[gd,zzb]at h;simp[Region.wanted,hgo,h]
 |some gw=>
  obtain⟨j,want⟩:=gw;rw[hgo]at hg;simp only[qeq]at hg;obtain⟨t,ht,hg⟩:=zza.1 hg;cases hg;simp only[gd]at h;have hyt:=hf t;have hy:yielded ops a.tmps j=match a.tmps[t]? with|some (.bool b)=>some b|_=>none:=by unfold yielded;rw[ht];rfl
  split at h
  ·rename_i b' hb;rw[hb]at hyt;have:=qhU hyt;have hyb:yielded ops a.tmps j=some b':=by
    rw[hy];rw[zzx]at this;cases hq:a.tmps[t]? with
    |none=>rw[hq]at this;cases this
    |some z=>rw[hq]at this;simp at this;subst this;rfl
   simp only[zzb]at h;rw[<-h];simp only[Region.wanted,hgo,hyb];cases b'<;>cases want<;>rfl
  ·rename_i hb;rw[hb]at hyt;have hyb:yielded ops a.tmps j=none:=by
    rw[hy];rw[zzx]at hyt;cases hq:a.tmps[t]? with
    |none=>rfl
    |some z=>rw[hq]at hyt;simp only[zzA]at hyt;cases hyt;rfl
   simp only[zzb]at h;rw[<-h];simp only[Region.wanted,hgo,hyb];rfl
  ·cases h
def qye{o:Ap}{fr fr':Fr}(h:∀t∈o.uses,fr.get t=fr'.get t):gd o fr=gd o fr':=by
 unfold gd;cases hg:o.g with
 |none=>rfl
 |some p=>obtain⟨t,want⟩:=p;simp only;rw[h t (by simp[Ap.uses,hg])]
def qFC(hO:OrOK P C N E)(hN:NOK P N C E.G)(hng:nt<=gh){ops:Array Oper}(hnof:∀o∈ops.toList,qb7 o.op=false){L:CL Ap}(hL:L=ops.toList.map (qau P N ops)){st:Nat->St}{id0:Nat}{Q:Exit->Act->CU->Prop}(hdst:∀o∈ops.toList,∀d,o.dst=some d->d<nt)
  (hok:qi2 ops.toList L=true) (htr:∀i (h:i<L.length),Bi E L[i] (id0+qar (L.take i)) (st i)=some (st (i+1)))
  (hpd:∀j,j<L.length->qaM ((bef ops.toList []).getD j 0) 0 ((List.range j).map λk=>(TT E L id0 st k,WW E L id0 st k)) (TT E L id0 st j) (WW E L id0 st j)=true) (hR:id0+qar L<=(st 0).H.length) (hbase:base<=id0)
  {w0:CU} {S0:qad} {β0:Pl} (hQ:∀a' w' S' β',Inv P N C E B base nt (st L.length) a' w' S' β'->Ext B w0 S0 w' S'->Lb base β0 β'->Q .normal a' w') :
  ∀(fuel:Nat) (listed:Array CO) (a:Act) (w:CU) (S:qad) (β:Pl) (fr:Fr) (Hc:CW),listed.size=L.length->(∀j (h:j<ops.toList.length),listed.getD j false=true->∀e∈ops.toList[j].after.toList,Region.binds .any e=true->listed.getD e.on false=true)->
   (List.range L.length).countP (λj=>!listed.getD j false)<=fuel->Inv P N C E B base nt ⟨fr,Hc⟩ a w S β->(∀t,fr.get t=TF L st (λj=>listed.getD j false) L.length t)->(∀o,Hc.obj o=HF E L id0 st (λj=>listed.getD j false) L.length o)->Hc.length=(st 0).H.length->
   (∀k,k<L.length->(L.getD k default).op.adds=true->listed.getD k false=false->β (qb6 L id0 k)=.pend)->
   Ext B w0 S0 w S->Lb base β0 β->wpAnyIn (FR ro) nf P .any ops Q fuel listed a w:=by
 have hlen:L.length=ops.size:=by rw[hL];simp
 have hgetL:∀i (h:i<L.length),L.getD i default=L[i]:=λi h=>by simp[List.getD,zze h]
 have hchk:∀j,j<L.length->(∀e∈(ops.toList.getD j default).after.toList,Region.binds .any e=true->e.on<j)/\∀i,i<j->((bef ops.toList []).getD j 0).testBit i=true\/qmv (L.getD i default) (L.getD j default)=true:=by intro j hj;simp only[qi2,List.all_eq_true,List.mem_range,zzf,Bool.or_eq_true,Bool.not_eq_true',zzq,Array.length_toList]at hok;obtain⟨h1,h2⟩:=hok j (by omega);refine⟨λe he hb=>(h1 e he).resolve_left (by simp[hb]),h2⟩
 have hchk2:∀j,j<L.length->∀i,i<j->((bef ops.toList []).getD j 0).testBit i=true\/((∀o,o∈WW E L id0 st i->o∉TT E L id0 st j)/\∀o,o∈WW E L id0 st j->o∉TT E L id0 st i):=by
  intro j hj i hi;have:=qA7 (hpd j hj) i (by simpa using hi);simp only[List.getElem_map,List.getElem_range,Nat.zero_add]at this;rcases this with ⟨h1,h2⟩|h
  ·exact .inr ⟨λo ho=>qxq h1 ho,λo ho=>qxq h2 ho⟩
  ·exact .inl h
 have hWT:∀i o,o∈WW E L id0 st i->o∈TT E L id0 st i:=λi o h=>zzB.2 (.inl h);have hopsget:∀j (h:j<ops.toList.length),ops.toList.getD j default=ops.toList[j]:=λj h=>by simp[List.getD,zze h]
 have hheap:=λi hi=>qCE htr i hi;have done:∀(listed:Array CO) (a:Act) (w:CU) (S:qad) (β:Pl) (fr:Fr) (Hc:CW),(∀j,j<L.length->listed.getD j false=true)->Inv P N C E B base nt ⟨fr,Hc⟩ a w S β->(∀t,fr.get t=TF L st (λj=>listed.getD j false) L.length t)->(∀o,Hc.obj o=HF E L id0 st (λj=>listed.getD j false) L.length o)->Hc.length=(st 0).H.length->
   Ext B w0 S0 w S->Lb base β0 β->Q .normal a w:=by
  intro listed a w S β fr Hc hall hI hfr hHc hHl he hlb;refine hQ a w S β ?_ he hlb;have hend:∀o,Hc.obj o=(st L.length).H.obj o:=by intro o;rw[hHc o,qvU htr o L.length (zzt _)];exact qeI (λj hj _=>hall j hj)
  have hlenE:(st L.length).H.length=Hc.length:=by rw[hHl];exact hheap L.length (zzt _)
  have eqf:∀t,(st L.length).fr.get t=fr.get t:=by intro t;rw[qv7 htr t L.length (zzt _),hfr t];exact qeI (λj hj _=>(hall j hj).symm)
  refine⟨hI.swf,hI.gok,hI.hB,⟨?_,?_,?_,hI.hok.inj,?_,?_,hI.hok.spi⟩,?_,hI.size,hI.defers.frame (λt _=>eqf t),hI.yok,by rw[hlenE];exact hI.base⟩
  ·intro o blk b k h;rw[<-hend];exact hI.hok.live o blk b k h
  ·intro o h;rw[<-hend];exact hI.hok.dead o h
  ·intro o h;rw[<-hend];exact hI.hok.Bq o h
  ·intro o h;rw[hlenE]at h;exact hI.hok.out o h
  ·intro o blk x h;rw[<-hend];exact hI.hok.sp o blk x h
  ·intro t;rw[eqf];exact hI.fok t
 intro fuel;induction fuel with
 |zero=>
  intro listed a w S β fr Hc hsz hcl hcnt hI hfr hHc hHl hpend he hlb;have hall:∀j,j<L.length->listed.getD j false=true:=by
   intro j hj;have h0:(List.range L.length).countP (λj=>!listed.getD j false)=0:=by omega
   rw[List.countP_eq_zero]at h0;have:=h0 j (List.mem_range.2 hj);simpa using this
  refine⟨?_,done listed a w S β fr Hc hall hI hfr hHc hHl he hlb⟩;rw[List.eq_nil_iff_forall_not_mem];intro j hj;rw[mem_ready]at hj;obtain⟨h1,o,ho,-⟩:=hj;have hj':j<L.length:=by rw[hlen];exact (Array.getElem?_eq_some_iff.1 ho).1
  have h2:=hall j hj';have:listed.getD j true=listed.getD j false:=by simp[zzx,Array.getElem?_eq_getElem (show j<listed.size by omega)]
  rw[this,h2]at h1;cases h1
 |succ fuel ih=>
  intro listed a w S β fr Hc hsz hcl hcnt hI hfr hHc hHl hpend he hlb;have hgd:∀j,j<L.length->listed.getD j true=listed.getD j false:=λj hj=>by simp[zzx,Array.getElem?_eq_getElem (show j<listed.size by omega)]
  refine⟨?_,?_⟩
  ·intro hnil;refine done listed a w S β fr Hc ?_ hI hfr hHc hHl he hlb;intro j;induction j using Nat.strongRecOn with
   |ind j ihj=>
    intro hj;cases hl:listed.getD j false with
    |true=>rfl
    |false=>
     exfalso;have hjo:j<ops.size:=by omega
     have:j∈Region.ready .any ops listed:=by rw[mem_ready];refine⟨by rw[hgd j hj];exact hl,ops[j],by simp[hjo],?_⟩;intro e hem hb;have hlt:=(hchk j hj).1 e (by rw[hopsget j (by simpa using hjo)];simpa using hem) hb;exact ihj e.on hlt (by omega)
     rw[hnil]at this;exact zzC this
  ·intro i hi;rw[mem_ready]at hi;obtain⟨hun,o,ho,hpre⟩:=hi;have hio:i<ops.size:=(Array.getElem?_eq_some_iff.1 ho).1;have hiL:i<L.length:=by omega
   have hoi:ops.toList[i]'(by simpa using hio)=o:=by have:=(Array.getElem?_eq_some_iff.1 ho).2;simpa using this
   rw[hgd i hiL]at hun;have hbefi:∀k,((bef ops.toList []).getD i 0).testBit k=true->listed.getD k false=true:=
    qrA (S:=λk=>listed.getD k false=true) hcl i (by simpa using hio) (λe hem hb=>hpre e (by rw[hoi]at hem;simpa using hem) hb)
   have hafter:∀j,j<L.length->((bef ops.toList []).getD j 0).testBit i=true->listed.getD j false=false:=by
    intro j hj hb;cases hl:listed.getD j false with
    |false=>rfl
    |true=>have:=qrA (S:=λk=>listed.getD k false=true) hcl j (by simp;omega) (λe hem hb'=>hcl j (by simp;omega) hl e hem hb') i hb;rw[hun]at this;cases this
   have hgi:=hgetL i hiL;have huse:∀t∈(L.getD i default).uses,fr.get t=(st i).fr.get t:=by
    intro t ht;rw[hfr t,qv7 htr t i (by omega)];refine Eq.trans ?_ (qqL (show i<=L.length by omega));refine qeI ?_;intro j hj hd;have hd:(L.getD j default).dst=some t:=by simpa[wF]using hd
    rcases Nat.lt_trichotomy j i with h1|h1|h1
    ·have:listed.getD j false=true:=by
      rcases (hchk i hiL).2 j h1 with hb|hap
      ·exact hbefi j hb
      ·exact absurd ht ((qoA hap).1 t hd).1
     rw[this];simp[h1]
    ·subst h1;rw[hun];simp
    ·have:listed.getD j false=false:=by
      rcases (hchk j hj).2 i h1 with hb|hap
      ·exact hafter j hj hb
      ·exact absurd ht ((qoA hap).2 t hd)
     rw[this];simp;omega
   have hobj:∀o'∈TT E L id0 st i,Hc.obj o'=(st i).H.obj o':=by
    intro o' ho';rw[hHc o',qvU htr o' i (by omega)];refine Eq.trans ?_ (qqL (show i<=L.length by omega));refine qeI ?_;intro j hj hd;have hd:o'∈WW E L id0 st j:=by simpa using hd
    rcases Nat.lt_trichotomy j i with h1|h1|h1
    ·have:listed.getD j false=true:=by
      rcases hchk2 i hiL j h1 with hb|hap
      ·exact hbefi j hb
      ·exact absurd ho' (hap.1 o' hd)
     rw[this];simp[h1]
    ·subst h1;rw[hun];simp
    ·have:listed.getD j false=false:=by
      rcases hchk2 j hj i h1 with hb|hap
      ·exact hafter j hj hb
      ·exact absurd ho' (hap.2 o' hd)
     rw[this];simp;omega
   have hset:∀j,(listed.setIfInBounds i true).getD j false=(listed.getD j false||j==i):=by
    intro j;by_cases hji:j=i
    ·subst hji;simp[zzx,show j<listed.size by omega]
    ·rw[getD_set_ne false (λe=>hji e.symm)];simp[hji]
   have hsz':(listed.setIfInBounds i true).size=L.length:=by simp[hsz]
   have hcl':∀j (h:j<ops.toList.length),(listed.setIfInBounds i true).getD j false=true->∀e∈ops.toList[j].after.toList,Region.binds .any e=true->(listed.setIfInBounds i true).getD e.on false=true:=by
    intro j hj hl e hem hb;rw[hset]at hl;rw[hset];by_cases hji:j=i
    ·subst hji;rw[hpre e (by rw[hoi]at hem;simpa using hem) hb];rfl
    ·have:listed.getD j false=true:=by simpa[hji]using hl
     rw[hcl j hj this e hem hb];rfl
   have hcnt':(List.range L.length).countP (λj=>!(listed.setIfInBounds i true).getD j false)<=fuel:=by
    have:=qrW (p:=λj=>!listed.getD j false) (p':=λj=>!(listed.setIfInBounds i true).getD j false) (i:=i) (l:=List.range L.length) (λj _ h=>by
     simp only[hset]at h;simp only[Bool.not_eq_true',zzD]at h⊢;exact h.1) (List.mem_range.2 hiL) (by simp only[hun];rfl) (by simp only[hset];simp)
    omega
   have hfr2:∀v H',st (i+1)=⟨qcR (st i).fr (L.getD i default).dst v,H'⟩->∀t,(qcR fr (L.getD i default).dst v).get t=TF L st (λj=>(listed.setIfInBounds i true).getD j false) L.length t:=by
    intro v H' hs t;have e1:TF L st (λj=>(listed.setIfInBounds i true).getD j false) L.length t=TF L st (λj=>listed.getD j false||j==i) L.length t:=qeI (λj _ _=>hset j);rw[e1];unfold TF;rw[qqM hiL hun,qmY]
    ·cases hw:wF L i t with
     |true=>
      have hd:(L.getD i default).dst=some t:=by simpa[wF]using hw
      rw[if_pos hd,if_pos rfl,hs,hd];simp only[qmY,if_true]
     |false=>
      have hd:(L.getD i default).dst≠some t:=by simpa[wF]using hw
      rw[if_neg hd];simp only[zzg,if_false];exact hfr t
    ·intro j h1 h2 h3 h4;have h3:(L.getD j default).dst=some t:=by simpa[wF]using h3
     have h4:(L.getD i default).dst=some t:=by simpa[wF]using h4
     rcases (hchk j h2).2 i h1 with hb|hap
     ·exact hafter j h2 hb
     ·exact absurd h3 ((qoA hap).1 t h4).2
   have hH2:∀Hn:CW,(∀o',o'∈WW E L id0 st i->Hn.obj o'=(st (i+1)).H.obj o')->(∀o',o'∉WW E L id0 st i->Hn.obj o'=Hc.obj o')->∀o',Hn.obj o'=HF E L id0 st (λj=>(listed.setIfInBounds i true).getD j false) L.length o':=by
    intro Hn hin hout o';have e1:HF E L id0 st (λj=>(listed.setIfInBounds i true).getD j false) L.length o'=HF E L id0 st (λj=>listed.getD j false||j==i) L.length o':=qeI (λj _ _=>hset j);rw[e1];unfold HF;rw[qqM hiL hun]
    ·by_cases hm:o'∈WW E L id0 st i
     ·rw[if_pos (by simpa using hm),hin o' hm]
     ·rw[if_neg (by simpa using hm),hout o' hm];exact hHc o'
    ·intro j h1 h2 h3 h4;have h3:o'∈WW E L id0 st j:=by simpa using h3
     have h4:o'∈WW E L id0 st i:=by simpa using h4
     rcases hchk2 j h2 i h1 with hb|hap
     ·exact hafter j h2 hb
     ·exact absurd (hWT j o' h3) (hap.1 o' h4)
   have hstep:=htr i hiL;rw[<-hgi]at hstep;have hdf:qb7 o.op=false:=hnof o (by rw[<-hoi];simp);have hnd:∀c,o.op≠.defer c:=λc h=>by rw[h]at hdf;cases hdf
   obtain⟨yb,hyb,hyok⟩:=hI.yok;have hdo:(L.getD i default).dst=o.dst:=by rw[hgi];simp only[hL,List.getElem_map,hoi];exact qr4 _ _ hdf
   have hdig:(∃x g,qaS P N o=some x/\qeq ops o.guard=some g/\L.getD i default=⟨o.dst,x,g⟩)\/L.getD i default=⟨o.dst,.bad,none⟩:=by
    have:L.getD i default=qau P N ops o:=by rw[hgi];simp only[hL,List.getElem_map,hoi]
    rw[this];unfold qau;split
    ·exact .inl ⟨_,_,by assumption,by assumption,by simp[hdf]⟩
    ·exact .inr rfl
   have hoN:o.dst=none\/∃d,o.dst=some d/\d<nt:=by
    cases hd:o.dst with
    |none=>exact .inl rfl
    |some d=>exact .inr ⟨d,rfl,hdst o (by rw[<-hoi];simp) d hd⟩
   have hinv:∀{v:PV} {H':CW} {u:CP} {w':CU} {S':qad} {β':Pl},Ext B w S w' S'->Swf w' S'->HOK C B w' S' β' H'->Later β β'->Ac C w' S' β' v u->Hc.length<=H'.length->Lb base β β'->
     Inv P N C E B base nt ⟨qcR fr o.dst v,H'⟩ (a.put o.dst u) w' S' β':=by
    intro v H' u w' S' β' e1 e2 e3 e4 e5 e6 e7;refine⟨e2,hI.gok.ext e1,zzL hI.hB e1.below.size,e3,?_,?_,?_,⟨yb,hyb,hyok.later e1 (e7.mono hyb)⟩,zzL hI.base e6⟩
    ·rcases hoN with hd|⟨d,hd,hdn⟩
     ·rw[hd];exact hI.fok.ext e1 e4
     ·rw[hd];exact (hI.fok.ext e1 e4).put (by rw[hI.size];exact hdn) e5
    ·cases hd:o.dst with
     |none=>exact hI.size
     |some d=>simp[Act.put,hI.size]
    ·rcases hoN with hd|⟨d,hd,hdn⟩
     ·rw[hd];exact hI.defers.ext e1 e4
     ·rw[hd];refine (hI.defers.ext e1 e4).frame λt ht=>?_;have hlt:=Nat.lt_of_lt_of_le hdn (zzL hng ht);show (fr.set d v).get t=_;rw[qdu,if_neg (λh=>Nat.lt_irrefl _ (h▸hlt))]
   rcases hdig with ⟨x,g,hx,hg,hLi⟩|hbad
   ·unfold wpOpIn;rw[ho];simp only;rcases qvb hstep with ⟨hgt,v,H',hev,hst'⟩|⟨hgf,hst'⟩
    ·
     have hgfr:gd (L.getD i default) fr=some true:=by rw[qye huse];exact hgt
     rw[hLi]at hgfr;have hw:=qvz (ops:=ops) (o:=o) hI.fok hg hgfr;rw[if_pos hw];obtain⟨c1,c2,c3⟩:=qOc (E:=E) (H:=Hc) (fr:=fr) (fr':=(st i).fr) (id:=qb6 L id0 i) (x:=(L.getD i default).op) (λt ht=>huse t (zzB.2 (.inl ht)));have hlenc:Hc.length=(st i).H.length:=by rw[hHl];exact (hheap i (by omega)).symm
     have hadd1:(L.getD i default).op.adds=true->β (qb6 L id0 i)=.pend/\qb6 L id0 i<Hc.length:=by
      intro ha;refine⟨hpend i hiL ha hun,?_⟩;have:=qpm (id0:=id0) hiL ha (Nat.lt_add_one i);have h2:qb6 L id0 (i+1)<=id0+qar L:=by unfold qb6;have:=qtC L (i+1);omega
      omega
     obtain⟨Hn,hev1,hin,hout,hFl⟩:∃Hn:CW,qaa E (rd E fr) Hc (qb6 L id0 i) (L.getD i default).op=some (v,Hn)/\(∀o',o'∈WW E L id0 st i->Hn.obj o'=(st (i+1)).H.obj o')/\(∀o',o'∉WW E L id0 st i->Hn.obj o'=Hc.obj o')/\Hn.length=Hc.length:=by
      cases hk:(L.getD i default).op.okD (rd E (st i).fr)with
      |false=>
       obtain⟨he1,he2⟩:=qwD hk hev;have hHc2:Hc=(st i).H:=by refine qGM hlenc λo' ho'=>hobj o' (zzB.2 (.inr ?_));unfold Az;rw[qkF hgt,hk];exact List.mem_range.2 ho'
       subst hHc2;refine⟨H',by rw[(qtH (E:=E) (fr:=fr) (fr':=(st i).fr) (id:=qb6 L id0 i) (x:=(L.getD i default).op) (λt ht=>huse t (zzB.2 (.inl ht)))).1];exact he1,λo' _=>by rw[hst'],λo' ho'=>?_,he2⟩;rw[<-(qqx htr hiL).2 o' ho',hst']
      |true=>
       obtain⟨F,hF,hHF,hloc⟩:=qAV hk hev;have hfoot:∀o'∈qas (rd E (st i).fr) (L.getD i default).op,Hc.obj o'=(st i).H.obj o':=by intro o' ho';refine hobj o' (zzB.2 (.inr ?_));unfold Az;rw[qkF hgt,hk];exact ho'
       have hev1:qaq E (rd E fr) Hc (qb6 L id0 i) (L.getD i default).op=some (v,F Hc):=by rw[c1];exact hloc Hc hfoot
       have hWi:WW E L id0 st i=(if (L.getD i default).op.adds then [qb6 L id0 i]else [])++(qaP (rd E (st i).fr) (L.getD i default).op++chg (st i).H (st (i+1)).H (qas (rd E (st i).fr) (L.getD i default).op)):=by unfold WW Ar;rw[qkF hgt,hk];rfl
       have hid:(L.getD i default).op.adds=true->Hc.obj (qb6 L id0 i)=(st i).H.obj (qb6 L id0 i):=λha=>hobj _ (zzB.2 (.inl (by rw[hWi,if_pos ha];exact zzB.2 (.inl (zzH.2 rfl)))));refine⟨F Hc,?_,?_,?_,qx7 hF Hc⟩
       ·have hkc:(L.getD i default).op.okD (rd E fr)=true:=by rw[(qtH (E:=E) (H:=Hc) (fr:=fr) (fr':=(st i).fr) (id:=qb6 L id0 i) (x:=(L.getD i default).op) (λt ht=>huse t (zzB.2 (.inl ht)))).2.1];exact hk
        unfold qaq at hev1;rw[if_pos hkc]at hev1;exact hev1
       ·intro o' ho';rw[hst',hHF];refine qx6 hF hfoot hid hlenc ?_;rw[hWi]at ho';rcases zzB.1 ho' with h|h
        ·split at h
         ·rename_i ha;exact .inr ⟨ha,zzH.1 h⟩
         ·cases h
        ·rcases zzB.1 h with h|h
         ·exact .inl (qvc h)
         ·exact .inl (qrO h)
       ·intro o' ho';have hno:¬((L.getD i default).op.adds=true/\o'=qb6 L id0 i):=by rintro⟨ha,hb⟩;rw[hWi,if_pos ha]at ho';exact ho' (zzB.2 (.inl (by rw[hb];exact zzH.2 rfl)))
        by_cases hm:o'∈qas (rd E (st i).fr) (L.getD i default).op
        ·rw[hfoot o' hm,<-(qqx htr hiL).2 o' ho',hst',hHF];exact qx6 hF hfoot hid hlenc (.inl hm)
        ·exact qx8 hF hm hno
     have hev2:qaa E (rd E fr) Hc (if x.adds then qb6 L id0 i else Hc.length) x=some (v,Hn):=by
      have h3:=hev1;rw[hLi]at h3;cases ha:x.adds with
      |true=>exact h3
      |false=>rw[<-h3];exact qoU ha _ _
     have hadd2:x.adds=(L.getD i default).op.adds:=by rw[hLi]
     refine qtJ hO hN hI.gok hI.swf hI.hB hI.hok hI.fok hnd hyok (zzL hyb hI.base) hx ?_ hev2 ?_
     ·intro ha;rw[if_pos ha];exact hadd1 (hadd2▸ha)
     ·intro u w' S' β' e1 e2 e3 e4 e5 e6 e7;have hlb1:Lb base β β':=by
       intro o' ho';have hb:base<=Hc.length:=hI.base;refine⟨e4 o',λhp=>e7 o' (Nat.lt_of_lt_of_le ho' hb) ?_ hp⟩;split
       ·unfold qb6;omega
       ·omega
      refine ih (listed.setIfInBounds i true) (a.put o.dst u) w' S' β' (qcR fr o.dst v) Hn hsz' hcl' hcnt' (hinv e1 e2 e3 e4 e5 e6 hlb1) ?_ (hH2 _ hin hout) (hFl.trans hHl) ?_ (he.trans e1) (hlb.trans hlb1)
      ·rw[<-hdo];exact hfr2 v H' hst'
      ·intro k hk hka hkl;rw[hset]at hkl;simp only[zzD,beq_eq_false_iff_ne]at hkl;have h1:=hpend k hk hka hkl.1;have h2:qb6 L id0 k<Hc.length:=by
        have:=qpm (id0:=id0) hk hka (Nat.lt_add_one k);have h2:qb6 L id0 (k+1)<=id0+qar L:=by unfold qb6;have:=qtC L (k+1);omega
        omega
       refine e7 _ h2 ?_ h1;split
       ·rename_i ha;rw[hadd2]at ha;rcases Nat.lt_or_gt_of_ne hkl.2 with hlt|hgt
        ·have:=qpm (id0:=id0) hk hka hlt;omega
        ·have:=qpm (id0:=id0) hiL ha hgt;omega
       ·omega
    ·
     have hgfr:gd (L.getD i default) fr=some false:=by rw[qye huse];exact hgf
     rw[hLi]at hgfr;have hw:=qvz (ops:=ops) (o:=o) hI.fok hg hgfr;rw[hw];simp only[zzg,if_false];refine⟨λ_ _=>trivial,?_⟩;have hW0:WW E L id0 st i=[]:=by unfold WW Ar;rw[qkF hgf];rfl
     refine ih (listed.setIfInBounds i true) (a.put o.dst undef) w S β (qcR fr o.dst (.t [])) Hc hsz' hcl' hcnt' (hinv (Ext.refl _ _ _) hI.swf hI.hok (Later.refl _) (.t [] [] rfl (λj h=>absurd h (zzm _))) (zzt _) (Lb.refl _ _)) ?_ (hH2 _ (λo' ho'=>by rw[hW0]at ho';cases ho') (λ_ _=>rfl)) hHl ?_ he hlb
     ·rw[<-hdo];exact hfr2 _ _ hst'
     ·intro k hk hka hkl;rw[hset]at hkl;simp only[zzD]at hkl;exact hpend k hk hka hkl.1
   ·exfalso;rw[hbad]at hstep;simp[Bi,qaq,IOp.okD,IOp.Bg]at hstep
def qp1(H:CW)(n o:Nat):Heap.obj (H++List.replicate n none) o=H.obj o:=by
 rcases Nat.lt_or_ge o H.length with h|h
 ·unfold Heap.obj;rw[List.getElem?_append_left h]
 ·unfold Heap.obj;rw[List.getElem?_append_right h,List.getElem?_replicate,List.getElem?_eq_none h];by_cases hc:o-H.length<n
  ·rw[if_pos hc]
  ·rw[if_neg hc]
def qPf(hO:OrOK P C N E)(hN:NOK P N C E.G)(hng:nt<=gh){id:Nat}{ops:Array Oper}{s s':St}{a:Act}{w:CU}{S:qad}{β:Pl}{Q:Exit->Act->CU->Prop}(hnof:∀o∈ops.toList,qb7 o.op=false)(hdst:∀o∈ops.toList,∀d,o.dst=some d->d<nt)
  (hok:qi2 ops.toList (ops.toList.map (qau P N ops))=true) (he:qbW E (ops.toList.map (qau P N ops)) (bef ops.toList []) [] s.H.length ⟨s.fr,s.H++List.replicate (qar (ops.toList.map (qau P N ops))) none⟩=some s') (hI:Inv P N C E B base nt s a w S β)
  (hQ:∀a' w' S' β',Inv P N C E B base nt s' a' w' S' β'->Ext B w S w' S'->Lb base β β'->Q .normal a' w'):(Code.region id ops true).wpIn (FR ro) nf P Q a w:=by
 refine wpIn_region_any hN.mixed ?_;obtain⟨st,h0,h1,h2,h3⟩:=qCD _ _ _ _ _ _ he;have hd:(w.drew:CU)={ w with drawn:=w.drawn+1 }:=rfl;rw[<-hd];have hlen0:(st 0).H.length=s.H.length+qar (ops.toList.map (qau P N ops)):=by rw[h0];simp
 have hno:∀j,(Array.replicate ops.size false).getD j false=false:=λj=>by simp[zzx,Array.getElem?_replicate];split<;>rfl
 have hz:∀{α:Type} (w:Nat->Nat->CO) (v:Nat->Nat->α) (z:Nat->α) (m t:Nat),GF w v z (λj=>(Array.replicate ops.size false).getD j false) m t=z t:=by
  intro α w v z m t;induction m with
  |zero=>rfl
  |succ m ih=>show (if (Array.replicate ops.size false).getD m false&&w m t then _ else _)=_;rw[hno m];exact ih
 obtain⟨yb,hyb,hyok⟩:=hI.yok;have hg:=qmZ hI.hok (qar (ops.toList.map (qau P N ops)));refine qFC (B:=B) (base:=base) (nt:=nt) (st:=st) (id0:=s.H.length) (w0:=w) (S0:=S) (β0:=β) hO hN hng hnof rfl hdst hok h2 (by simpa using h3) ?_ hI.base ?_ ops.size (Array.replicate ops.size false) a w.drew S β s.fr (s.H++List.replicate (qar (ops.toList.map (qau P N ops))) none) (by simp) ?_ ?_ ?_ ?_ ?_ ?_ ?_ (qb4 (B:=B)) (Lb.refl _ _)
 ·rw[hlen0];exact zzt _
 ·intro a' w' S' β' hI' e1 e2;rw[h1]at hI';exact hQ a' w' S' β' hI' e1 e2
 ·intro j hj hl;rw[hno]at hl;cases hl
 ·refine zzL (List.countP_le_length) ?_;simp
 ·refine⟨hI.swf.ext (qb4 (B:=B)),hI.gok.ext (qb4 (B:=B)),hI.hB,hg.drew,hI.fok.ext (qb4 (B:=B)) (Later.refl _),hI.size,hI.defers.ext (qb4 (B:=B)) (Later.refl _),⟨yb,hyb,hyok.later (qb4 (B:=B)) (Lb.refl _ _)⟩,?_⟩;have:=hI.base;simp only[zzp];omega
 ·intro t;unfold TF;rw[hz,h0]
 ·intro o;unfold HF;rw[hz,h0]
 ·rw[h0]
 ·intro k hk _ _;refine hI.hok.out _ ?_;unfold qb6;omega
end
def qxa{E:Env}{fr:Fr}:∀{ps:CL (Nat×K×Ab)} {qs:CL (Nat×K×PV)},qoM ps=some qs->ps.map (λx=>(x.1,x.2.1,rd E fr x.2.2))=qs
 |[],qs,h=>by cases h;rfl
 | (c,k,.c v)::r,qs,h=>by simp only[qoM,Option.map_eq_some_iff]at h;obtain⟨l,h1,rfl⟩:=h;rw[zzu,qxa h1];rfl
 | (_,_,.t _)::_,_,h=>by cases h
 | (_,_,.g _)::_,_,h=>by cases h
 | (_,_,.f _)::_,_,h=>by cases h
def qJf{E:Env}{fr:Fr}{H:CW}{id:Nat}{x:IOp}{k:DV}(h:qh7 x=some k):qaa E (rd E fr) H id x=some (.d k,H):=by
 unfold qh7 at h;split at h
 ·rename_i z ps;split at h
  ·rename_i qs hq;split at h
   ·rename_i cs hcs;split at h
    ·rename_i k' hk;simp only[zzb]at h;subst h;simp only[qaa,qxa hq,hcs,hk]
    ·cases h
   ·cases h
  ·cases h
 ·cases h
def qjl(id0:Nat)(o:Ap):PV:=match qh7 o.op with|some k=>.d k|none=>.h id0
def qxU{α:Type}{e:Nat->CK α}{S:Nat->CO}{i:Nat}(hS:S i=false):∀l:CF,l.Nodup->(l.filterMap λj=>if (S j||j==i)=true then e j else none).Perm (if i∈l then (e i).toList++(l.filterMap λj=>if S j=true then e j else none)else l.filterMap λj=>if S j=true then e j else none)
 |[],_=>by simp
 |a::r,hn=>by
  obtain⟨ha,hr⟩:=List.nodup_cons.1 hn;have ih:=qxU (e:=e) hS r hr;by_cases hai:a=i
  ·subst hai;rw[if_neg ha]at ih;rw[if_pos (zzr ..),List.filterMap_cons,List.filterMap_cons];simp only[hS,BEq.rfl,Bool.or_true,if_true,zzg,if_false];cases e a with
   |none=>simpa using ih
   |some x=>simpa using ih
  ·have hb:(a==i)=false:=by simpa using hai
   have hm:(i∈a::r)↔i∈r:=by rw[List.mem_cons];exact⟨λh=>h.resolve_left λe=>hai e.symm,.inr⟩
   rw[List.filterMap_cons,List.filterMap_cons];simp only[hb,Bool.or_false];by_cases hir:i∈r
   ·rw[if_pos (hm.2 hir)];rw[if_pos hir]at ih;cases hh:(if S a=true then e a else none)with
    |none=>simpa using ih
    |some x=>simp only;exact (ih.cons x).trans (List.perm_middle.symm)
   ·rw[if_neg (λh=>hir (hm.1 h))];rw[if_neg hir]at ih;cases hh:(if S a=true then e a else none)with
    |none=>simpa using ih
    |some x=>simpa using ih
def qes(L:CL Ap)(S:Nat->CO):CL (DV×DV):=(List.range L.length).filterMap λj=>if S j=true then qcw L j else none
structure Desc (L:List Ap) (id0:Nat) (fr0:Fr) (H0:Heap) (S:Nat->Bool) (fr:Fr) (H:Heap):Prop where
 f1:∀j,j<L.length->S j=true->∀t,(L.getD j default).dst=some t->fr.get t=qjl id0 (L.getD j default)
 f2:∀t,(∀j,j<L.length->S j=true->(L.getD j default).dst≠some t)->fr.get t=fr0.get t
 h0:H.length=H0.length
 h1:∀o,o≠id0->H.obj o=H0.obj o
 h2:S 0=false->H.obj id0=H0.obj id0/\∀j,j<L.length->S j=true->qcw L j=none
 h3:S 0=true->∃es,H.obj id0=some (.mp es)/\es.Perm (qes L S)
def qkA{L:CL Ap}{id0:Nat}{fr0:Fr}{H0:CW}{S S':Nat->CO}{fr:Fr}{H:CW}(h:∀j,j<L.length->S j=S' j)(hL:0<L.length)(D:Desc L id0 fr0 H0 S fr H):Desc L id0 fr0 H0 S' fr H:=by
 have he:qes L S=qes L S':=by
  unfold qes;have key:∀l:CF,(∀j∈l,j<L.length)->(l.filterMap λj=>if S j=true then qcw L j else none)=l.filterMap λj=>if S' j=true then qcw L j else none:=by
   intro l;induction l with
   |nil=>intro _;rfl
   |cons a r ih=>intro hl;rw[List.filterMap_cons,List.filterMap_cons,h a (hl a (by simp)),ih λj hj=>hl j (by simp[hj])]
  exact key _ λj hj=>List.mem_range.1 hj
 refine⟨λj hj hs=>D.f1 j hj (by rw[h j hj];exact hs),λt ht=>D.f2 t λj hj hs=>ht j hj (by rw[<-h j hj];exact hs),D.h0,D.h1,λh0=>?_,λh0=>?_⟩
 ·obtain⟨a,b⟩:=D.h2 (by rw[h 0 hL];exact h0);exact⟨a,λj hj hs=>b j hj (by rw[h j hj];exact hs)⟩
 ·obtain⟨es,a,b⟩:=D.h3 (by rw[h 0 hL];exact h0);exact⟨es,a,he▸b⟩
section
variable {L:CL Ap}{bf:CF}{t0:Nat}{r0:CL Ap}
def qpK(hL:L=⟨some t0,.Bz,none⟩::r0)(h:qdd L bf=true):(∀j,0<j->j<L.length->qpJ L bf t0 j (L.getD j default)=true)/\∀i j,i<j->j<L.length->∀t,(L.getD j default).dst=some t->(L.getD i default).dst≠some t:=by subst hL;simp only[qdd,zzf,List.all_eq_true,List.mem_range,Bool.or_eq_true,beq_iff_eq]at h;refine⟨λj h0 hj=>(h.1 j hj).resolve_left (by omega),λi j hij hj t ht hi=>?_⟩;have:=h.2 j hj i hij;rw[ht]at this;simp only[Bool.not_eq_true',zzE]at this;exact this hi
def qJg(hL:L=⟨some t0,.Bz,none⟩::r0)(h:qdd L bf=true){i j:Nat}(hi:i<L.length)(hj:j<L.length)(hij:i≠j){t:Nat}(ht:(L.getD j default).dst=some t):(L.getD i default).dst≠some t:=by
 rcases Nat.lt_or_gt_of_ne hij with h1|h1
 ·exact (qpK hL h).2 i j h1 hj t ht
 ·intro hi';exact (qpK hL h).2 j i h1 hi t hi' ht
inductive LK (L:List Ap) (t0 j:Nat):Ap->Prop
 |mk:j=0->LK L t0 j ⟨some t0,.Bz,none⟩
 |ag (t:Nat) (x:IOp) (k:DV):qh7 x=some k->x.adds=false->(∀ky a b c,x≠.mset ky a b c)->LK L t0 j ⟨some t,x,none⟩
 |ms (ky:Ky) (k i:Nat) (key v:DV):i<j->(L.getD i default).dst=some k->qh7 (L.getD i default).op=some key->qeW ky key=true->qpE L j k=some key->LK L t0 j ⟨none,.mset ky (.t t0) (.t k) (.c v),none⟩
 |mv (t x i:Nat):i<j->(L.getD i default).dst=some x->qh7 (L.getD i default).op=none->LK L t0 j ⟨some t,.mov (.t x),none⟩
def qCw{α:Type}[Inhabited α]{L:CL α}{j:Nat}{o:α}(h:o∈L.take j):∃i,i<j/\i<L.length/\L.getD i default=o:=by obtain⟨i,hi,e⟩:=zzO h;rw[zzI]at hi;rw[List.getElem_take]at e;refine⟨i,by omega,by omega,?_⟩;rw[List.getD_eq_getElem?_getD,zze (by omega),zzA];exact e
def qpL(hL:L=⟨some t0,.Bz,none⟩::r0)(h:qdd L bf=true){j:Nat}(hj:j<L.length):LK L t0 j (L.getD j default):=by
 by_cases h0:j=0
 ·subst h0;subst hL;exact .mk rfl
 ·have hl:=(qpK hL h).1 j (by omega) hj;generalize L.getD j default=o at *
  unfold qpJ at hl;split at hl
  ·rename_i t z ps;obtain⟨k,hk⟩:=Option.isSome_iff_exists.1 hl;exact .ag t _ k hk rfl (λ_ _ _ _ e=>by cases e)
  ·rename_i ky m k v;simp only[zzf,zzq]at hl;obtain⟨rfl,hl⟩:=hl;split at hl
   ·rename_i key hkey;simp only[zzf]at hl;have hk2:=hkey;unfold qpE at hk2;obtain⟨o,ho,e⟩:=List.exists_of_findSome?_eq_some hk2;split at e
    ·rename_i hd;obtain⟨i,hi,-,rfl⟩:=qCw ho;exact .ms ky k i key v hi hd e hl.1 hkey
    ·cases e
   ·cases hl
  ·rename_i t x;simp only[zzf]at hl;have hm:=hl.1;unfold qAj at hm;obtain⟨o,ho,e⟩:=List.any_eq_true.1 hm;simp only[zzf,zzq]at e;obtain⟨i,hi,-,rfl⟩:=qCw ho;refine .mv t x i hi e.1 ?_;have e2:=e.2;unfold qyP at e2;split at e2
   ·rename_i e3;rw[e3];rfl
   ·rename_i e3;rw[e3];rfl
   ·cases e2
  ·cases hl
def qyo(L:CL Ap){j:Nat}(hj:j<L.length):L[j]? = some (L.getD j default):=by rw[List.getD_eq_getElem?_getD,zze hj,zzA]
def qz0(hL:L=⟨some t0,.Bz,none⟩::r0)(h:qdd L bf=true){i j:Nat}(hij:i<j)(hj:j<L.length){a b:DV×DV}(ha:qcw L i=some a)(hb:qcw L j=some b):qbS b.1 a.1=some false:=by
 have hl:=(qpK hL h).1 j (by omega) hj;have hb':=hb;unfold qcw at hb';rw[qyo L hj]at hb';generalize L.getD j default=o at *
 split at hb'
 ·rename_i d ky x k v g e;simp only[zzb]at e;subst e;unfold qpJ at hl;split at hl
  ·rename_i e2;cases e2
  ·rename_i ky' m k' v' e2;cases e2;simp only[zzf,zzq]at hl;obtain⟨-,hl⟩:=hl;split at hl
   ·rename_i key hkey;rw[hkey]at hb';simp only[Option.map_some,zzb]at hb';subst hb';simp only[zzf,List.all_eq_true,List.mem_range]at hl;have:=hl.2 i hij;rw[ha]at this;simpa using this
   ·cases hl
  ·rename_i e2;cases e2
  ·cases hl
 ·cases hb'
end
section
variable {L:CL Ap}{bf:CF}{t0:Nat}{r0:CL Ap}{E:Env}{id0:Nat}{fr0 fr:Fr}{H0 H:CW}{S:Nat->CO}
def qFL{e:DV×DV}(h:e∈qes L S):∃i,i<L.length/\S i=true/\qcw L i=some e:=by
 unfold qes at h;obtain⟨i,hi,he⟩:=List.mem_filterMap.1 h;split at he
 ·rename_i hs;exact⟨i,List.mem_range.1 hi,hs,he⟩
 ·cases he
def qFK{j:Nat}(hj:j<L.length)(hun:S j=false):(qes L λk=>S k||k==j).Perm ((qcw L j).toList++qes L S):=by have:=qxU (e:=qcw L) hun (List.range L.length) List.nodup_range;rw[if_pos (List.mem_range.2 hj)]at this;exact this
def qFs(hL:L=⟨some t0,.Bz,none⟩::r0)(hlit:qdd L bf=true)(D:Desc L id0 fr0 H0 S fr H){j:Nat}(hj:j<L.length){v:PV}(hv:∀t,(L.getD j default).dst=some t->v=qjl id0 (L.getD j default)) :
  (∀i,i<L.length->(S i||i==j)=true->∀t,(L.getD i default).dst=some t->(qcR fr (L.getD j default).dst v).get t=qjl id0 (L.getD i default))/\
  ∀t,(∀i,i<L.length->(S i||i==j)=true->(L.getD i default).dst≠some t)->(qcR fr (L.getD j default).dst v).get t=fr0.get t:=by
 refine⟨λi hi hs t ht=>?_,λt ht=>?_⟩
 ·rw[qmY];by_cases hij:i=j
  ·subst hij;rw[if_pos ht];exact hv t ht
  ·rw[if_neg (qJg hL hlit hj hi (λe=>hij e.symm) ht)];have:S i=true:=by simpa[hij]using hs
   exact D.f1 i hi this t ht
 ·rw[qmY,if_neg (ht j hj (by simp))];exact D.f2 t λi hi hs=>ht i hi (by simp[hs])
def qz3(hL:L=⟨some t0,.Bz,none⟩::r0)(hlit:qdd L bf=true)(hid:id0<H0.length)(D:Desc L id0 fr0 H0 S fr H){j:Nat}(hj:j<L.length)(hun:S j=false)
  (hdep:∀i,i<j->∀t,(L.getD i default).dst=some t->t∈(L.getD j default).op.uses->S i=true) :
  ∃v H',qaa E (rd E fr) H id0 (L.getD j default).op=some (v,H')/\Desc L id0 fr0 H0 (λk=>S k||k==j) (qcR fr (L.getD j default).dst v) H':=by
 have hk:=qpL hL hlit hj;have hid':id0<H.length:=by rw[D.h0];exact hid
 have hLp:0<L.length:=by omega
 have hfr:=λv hv=>qFs hL hlit D hj (v:=v) hv;have hadd:=qFK (L:=L) (S:=S) hj hun;have hg0:L.getD 0 default=⟨some t0,.Bz,none⟩:=by subst hL;rfl
 have hgo:=qyo L hj;generalize ho:L.getD j default=o at *
 cases hk with
 |mk h0=>
  subst h0;have he:qcw L 0=none:=by unfold qcw;rw[hgo]
  obtain⟨a1,a2⟩:=D.h2 hun;obtain⟨g1,g2⟩:=hfr (.h id0) (λt _=>rfl);refine⟨.h id0,H.put id0 (some (.mp [])),rfl,g1,g2,by rw[qa2];exact D.h0,λo ho=>?_,λh=>by simp at h,λ_=>⟨[],?_,?_⟩⟩
  ·rw[qdO,if_neg (λc=>ho c.1)];exact D.h1 o ho
  ·rw[qdO,if_pos ⟨rfl,hid'⟩]
  ·rw[he]at hadd;refine (List.Perm.symm ?_);refine hadd.trans ?_;have:qes L S=[]:=by
    unfold qes;rw[List.filterMap_eq_nil_iff];intro i hi;split
    ·rename_i hs;exact a2 i (List.mem_range.1 hi) hs
    ·rfl
   rw[this];exact .nil
 |ag t x k hx ha hm=>
  have he:qcw L j=none:=by
   unfold qcw;rw[hgo];split
   ·rename_i e;simp only[zzb,Ap.mk.injEq]at e;exact absurd e.2.1 (hm _ _ _ _)
   ·rfl
  obtain⟨g1,g2⟩:=hfr (.d k) (λt _=>by show _=qjl id0 ⟨some _,x,none⟩;unfold qjl;rw[hx]);refine⟨.d k,H,qJf hx,g1,g2,D.h0,D.h1,λh=>?_,λh=>?_⟩
  ·simp only[zzD]at h;obtain⟨a1,a2⟩:=D.h2 h.1;refine⟨a1,λi hi hs=>?_⟩;by_cases hij:i=j
   ·subst hij;exact he
   ·exact a2 i hi (by simpa[hij]using hs)
  ·have h0:S 0=true:=by
    cases hS:S 0 with
    |true=>rfl
    |false=>
     rw[hS]at h;have:j=0:=by
      have:(0==j)=true:=by simpa using h
      have:=beq_iff_eq.1 this;omega
     subst this;rw[hg0]at ho;cases ho;simp[IOp.adds]at ha
   obtain⟨es,b1,b2⟩:=D.h3 h0;rw[he]at hadd;exact⟨es,b1,b2.trans hadd.symm⟩
 |ms ky k i key v hi hd hlo hky hka=>
  have hj0:0<j:=by omega
  have hS0:S 0=true:=hdep 0 hj0 t0 (by rw[hg0]) (by simp[IOp.uses,Ab.uses]);have hSi:S i=true:=hdep i hi k hd (by simp[IOp.uses,Ab.uses]);have e1:fr.get t0=.h id0:=by have:=D.f1 0 hLp hS0 t0 (by rw[hg0]);rw[hg0]at this;exact this
  have e2:fr.get k=.d key:=by have:=D.f1 i (by omega) hSi k hd;unfold qjl at this;rw[hlo]at this;exact this
  obtain⟨es,b1,b2⟩:=D.h3 hS0;have he:qcw L j=some (key,v):=by unfold qcw;rw[hgo];simp only[hka,Option.map_some]
  have hno:NoK key es:=by
   intro e hem;obtain⟨i',hi',hs',hen⟩:=qFL (b2.mem_iff.1 hem);have hne:i'≠j:=λc=>by rw[c,hun]at hs';cases hs'
   rcases Nat.lt_or_gt_of_ne hne with h1|h1
   ·exact qz0 hL hlit h1 hj hen he
   ·exact qs0 (qz0 hL hlit h1 hi' he hen)
  obtain⟨g1,g2⟩:=hfr .u (λt ht=>by cases ht);refine⟨.u,H.put id0 (some (.mp (es++[(key,v)]))),?_,g1,g2,by rw[qa2];exact D.h0,λo ho=>?_,λh=>?_,λ_=>⟨es++[(key,v)],?_,?_⟩⟩
  ·simp only[qaa,rd,e1,e2,pur,qaW,hky,if_true,b1,qtZ hno,frz]
  ·rw[qdO,if_neg (λc=>ho c.1)];exact D.h1 o ho
  ·rw[hS0]at h;simp at h
  ·rw[qdO,if_pos ⟨rfl,hid'⟩]
  ·rw[he]at hadd;refine (List.Perm.trans ?_ hadd.symm);show (es++[(key,v)]).Perm ((key,v)::qes L S);exact (List.perm_append_comm).trans (b2.cons _)
 |mv t x i hi hd hlo=>
  have hSi:S i=true:=hdep i hi x hd (by simp[IOp.uses,Ab.uses]);have e1:fr.get x=.h id0:=by have:=D.f1 i (by omega) hSi x hd;unfold qjl at this;rw[hlo]at this;exact this
  have he:qcw L j=none:=by unfold qcw;rw[hgo]
  obtain⟨g1,g2⟩:=hfr (.h id0) (λt _=>rfl);refine⟨.h id0,H,by simp only[qaa,rd,e1],g1,g2,D.h0,D.h1,λh=>?_,λh=>?_⟩
  ·simp only[zzD]at h;obtain⟨a1,a2⟩:=D.h2 h.1;refine⟨a1,λi' hi' hs=>?_⟩;by_cases hij:i'=j
   ·subst hij;exact he
   ·exact a2 i' hi' (by simpa[hij]using hs)
  ·have h0:S 0=true:=by
    cases hS:S 0 with
    |true=>rfl
    |false=>
     rw[hS]at h;have:(0==j)=true:=by simpa using h
     have:=beq_iff_eq.1 this;omega
   obtain⟨es,b1,b2⟩:=D.h3 h0;rw[he]at hadd;exact⟨es,b1,b2.trans hadd.symm⟩
def qz1(hL:L=⟨some t0,.Bz,none⟩::r0)(hlit:qdd L bf=true){j:Nat}(hj:j<L.length):(L.getD j default).g=none/\(0<j->(L.getD j default).op.adds=false):=by
 have hk:=qpL hL hlit hj;generalize L.getD j default=o at *
 cases hk with
 |mk h0=>exact⟨rfl,λh=>by omega⟩
 |ag t x k hx ha hm=>exact⟨rfl,λ_=>ha⟩
 |ms=>exact⟨rfl,λ_=>rfl⟩
 |mv=>exact⟨rfl,λ_=>rfl⟩
def qz2(hL:L=⟨some t0,.Bz,none⟩::r0)(hlit:qdd L bf=true)(hid:id0<H0.length):∀(m i id:Nat) (fr:Fr) (H:CW) (s':St),i+m=L.length->Desc L id0 fr0 H0 (λk=>decide (k<i)) fr H->(i=0->id=id0)->qaF E (L.drop i) id ⟨fr,H⟩=some s'->Desc L id0 fr0 H0 (λ_=>true) s'.fr s'.H
 |0,i,id,fr,H,s',hi,D,_,he=>by
  rw[zzF (by omega)]at he;simp only[qaF,zzb]at he;subst he;have hp:0<L.length:=by rw[hL];simp
  exact qkA (λj hj=>by simp;omega) hp D
 |m+1,i,id,fr,H,s',hi,D,hz,he=>by
  have hil:i<L.length:=by omega
  obtain⟨v,H',h1,h2⟩:=qz3 (E:=E) hL hlit hid D hil (by simp) (λk hk _ _ _=>by simpa using hk);obtain⟨g1,g2⟩:=qz1 hL hlit hil;have hev:qaa E (rd E fr) H id (L.getD i default).op=some (v,H'):=by
   by_cases h0:i=0
   ·rw[hz h0];exact h1
   ·rw[qoU (g2 (by omega)) id id0];exact h1
  have hdr:L.drop i=L.getD i default::L.drop (i+1):=by rw[zzz hil,List.getD_eq_getElem?_getD,zze hil,zzA]
  rw[hdr]at he;simp only[qaF,g1,hev]at he;have hp:0<L.length:=by omega
  refine qz2 hL hlit hid m (i+1) _ _ _ s' (by omega) (qkA (λj hj=>?_) hp h2) (λh=>by omega) he;rw[Bool.eq_iff_iff];simp only[Bool.or_eq_true,zzq,beq_iff_eq];omega
end
section
variable {P:CV}{N:Names}{C:Cx}{B base nt:Nat}{E:Env}{ro:CK Nat}{nf:Nat}
def qJh(hO:OrOK P C N E)(hN:NOK P N C E.G)(hng:nt<=gh){ops:Array Oper}(hnof:∀o∈ops.toList,qb7 o.op=false){L:CL Ap}(hLd:L=ops.toList.map (qau P N ops)){id0:Nat}{fr0:Fr}{H0:CW}{Q:Exit->Act->CU->Prop}(hdst:∀o∈ops.toList,∀d,o.dst=some d->d<nt)
  (hok:qi2 ops.toList L=true) {t0:Nat} {r0:CL Ap} (hL:L=⟨some t0,.Bz,none⟩::r0) (hlit:qdd L (bef ops.toList [])=true) (hid:id0<H0.length)
  {w0:CU} {S0:qad} {β0:Pl} (hbase:base<=id0) (hQ:∀a' w' S' β' fr H,Inv P N C E B base nt ⟨fr,H⟩ a' w' S' β'->Desc L id0 fr0 H0 (λ_=>true) fr H->Ext B w0 S0 w' S'->Lb base β0 β'->Q .normal a' w') :
  ∀(fuel:Nat) (listed:Array CO) (a:Act) (w:CU) (S:qad) (β:Pl) (fr:Fr) (Hc:CW),listed.size=L.length->(∀j (h:j<ops.toList.length),listed.getD j false=true->∀e∈ops.toList[j].after.toList,Region.binds .any e=true->listed.getD e.on false=true)->
   (List.range L.length).countP (λj=>!listed.getD j false)<=fuel->Inv P N C E B base nt ⟨fr,Hc⟩ a w S β->Desc L id0 fr0 H0 (λj=>listed.getD j false) fr Hc->
   (listed.getD 0 false=false->β id0=.pend)->
   Ext B w0 S0 w S->Lb base β0 β->wpAnyIn (FR ro) nf P .any ops Q fuel listed a w:=by
 have hlen:L.length=ops.size:=by rw[hLd];simp
 have hp:0<L.length:=by rw[hL];simp
 have hgetL:∀i (h:i<L.length),L.getD i default=L[i]:=λi h=>by simp[List.getD,zze h]
 have hchk:∀j,j<L.length->(∀e∈(ops.toList.getD j default).after.toList,Region.binds .any e=true->e.on<j)/\∀i,i<j->((bef ops.toList []).getD j 0).testBit i=true\/qmv (L.getD i default) (L.getD j default)=true:=by intro j hj;simp only[qi2,List.all_eq_true,List.mem_range,zzf,Bool.or_eq_true,Bool.not_eq_true',zzq,Array.length_toList]at hok;obtain⟨h1,h2⟩:=hok j (by omega);refine⟨λe he hb=>(h1 e he).resolve_left (by simp[hb]),h2⟩
 have hopsget:∀j (h:j<ops.toList.length),ops.toList.getD j default=ops.toList[j]:=λj h=>by simp[List.getD,zze h]
 have done:∀(listed:Array CO) (a:Act) (w:CU) (S:qad) (β:Pl) (fr:Fr) (Hc:CW),(∀j,j<L.length->listed.getD j false=true)->Inv P N C E B base nt ⟨fr,Hc⟩ a w S β->Desc L id0 fr0 H0 (λj=>listed.getD j false) fr Hc->
   Ext B w0 S0 w S->Lb base β0 β->Q .normal a w:=by
  intro listed a w S β fr Hc hall hI hD he hlb;exact hQ a w S β fr Hc hI (qkA (λj hj=>hall j hj) hp hD) he hlb
 intro fuel;induction fuel with
 |zero=>
  intro listed a w S β fr Hc hsz hcl hcnt hI hD hpend he hlb;have hall:∀j,j<L.length->listed.getD j false=true:=by
   intro j hj;have h0:(List.range L.length).countP (λj=>!listed.getD j false)=0:=by omega
   rw[List.countP_eq_zero]at h0;have:=h0 j (List.mem_range.2 hj);simpa using this
  refine⟨?_,done listed a w S β fr Hc hall hI hD he hlb⟩;rw[List.eq_nil_iff_forall_not_mem];intro j hj;rw[mem_ready]at hj;obtain⟨h1,o,ho,-⟩:=hj;have hj':j<L.length:=by rw[hlen];exact (Array.getElem?_eq_some_iff.1 ho).1
  have h2:=hall j hj';have:listed.getD j true=listed.getD j false:=by simp[zzx,Array.getElem?_eq_getElem (show j<listed.size by omega)]
  rw[this,h2]at h1;cases h1
 |succ fuel ih=>
  intro listed a w S β fr Hc hsz hcl hcnt hI hD hpend he hlb;have hgd:∀j,j<L.length->listed.getD j true=listed.getD j false:=λj hj=>by simp[zzx,Array.getElem?_eq_getElem (show j<listed.size by omega)]
  refine⟨?_,?_⟩
  ·intro hnil;refine done listed a w S β fr Hc ?_ hI hD he hlb;intro j;induction j using Nat.strongRecOn with
   |ind j ihj=>
    intro hj;cases hl:listed.getD j false with
    |true=>rfl
    |false=>
     exfalso;have hjo:j<ops.size:=by omega
     have:j∈Region.ready .any ops listed:=by rw[mem_ready];refine⟨by rw[hgd j hj];exact hl,ops[j],by simp[hjo],?_⟩;intro e hem hb;have hlt:=(hchk j hj).1 e (by rw[hopsget j (by simpa using hjo)];simpa using hem) hb;exact ihj e.on hlt (by omega)
     rw[hnil]at this;exact zzC this
  ·intro i hi;rw[mem_ready]at hi;obtain⟨hun,o,ho,hpre⟩:=hi;have hio:i<ops.size:=(Array.getElem?_eq_some_iff.1 ho).1;have hiL:i<L.length:=by omega
   have hoi:ops.toList[i]'(by simpa using hio)=o:=by have:=(Array.getElem?_eq_some_iff.1 ho).2;simpa using this
   rw[hgd i hiL]at hun;have hbefi:∀k,((bef ops.toList []).getD i 0).testBit k=true->listed.getD k false=true:=
    qrA (S:=λk=>listed.getD k false=true) hcl i (by simpa using hio) (λe hem hb=>hpre e (by rw[hoi]at hem;simpa using hem) hb)
   have hgi:=hgetL i hiL;have hdep:∀k,k<i->∀t,(L.getD k default).dst=some t->t∈(L.getD i default).op.uses->listed.getD k false=true:=by
    intro k hk t ht hu;rcases (hchk i hiL).2 k hk with hb|hap
    ·exact hbefi k hb
    ·exact absurd (zzB.2 (.inl hu)) ((qoA hap).1 t ht).1
   obtain⟨v,Hn,hev,hD'⟩:=qz3 (E:=E) hL hlit hid hD hiL hun hdep;obtain⟨hgn,hadd⟩:=qz1 hL hlit hiL;have hset:∀j,(listed.setIfInBounds i true).getD j false=(listed.getD j false||j==i):=by
    intro j;by_cases hji:j=i
    ·subst hji;simp[zzx,show j<listed.size by omega]
    ·rw[getD_set_ne false (λe=>hji e.symm)];simp[hji]
   have hsz':(listed.setIfInBounds i true).size=L.length:=by simp[hsz]
   have hcl':∀j (h:j<ops.toList.length),(listed.setIfInBounds i true).getD j false=true->∀e∈ops.toList[j].after.toList,Region.binds .any e=true->(listed.setIfInBounds i true).getD e.on false=true:=by
    intro j hj hl e hem hb;rw[hset]at hl;rw[hset];by_cases hji:j=i
    ·subst hji;rw[hpre e (by rw[hoi]at hem;simpa using hem) hb];rfl
    ·have:listed.getD j false=true:=by simpa[hji]using hl
     rw[hcl j hj this e hem hb];rfl
   have hcnt':(List.range L.length).countP (λj=>!(listed.setIfInBounds i true).getD j false)<=fuel:=by
    have:=qrW (p:=λj=>!listed.getD j false) (p':=λj=>!(listed.setIfInBounds i true).getD j false) (i:=i) (l:=List.range L.length) (λj _ h=>by
     simp only[hset]at h;simp only[Bool.not_eq_true',zzD]at h⊢;exact h.1) (List.mem_range.2 hiL) (by simp only[hun];rfl) (by simp only[hset];simp)
    omega
   have hD2:Desc L id0 fr0 H0 (λj=>(listed.setIfInBounds i true).getD j false) (qcR fr (L.getD i default).dst v) Hn:=qkA (λj _=>(hset j).symm) hp hD';have hdf:qb7 o.op=false:=hnof o (by rw[<-hoi];simp);have hnd:∀c,o.op≠.defer c:=λc h=>by rw[h]at hdf;cases hdf
   obtain⟨yb,hyb,hyok⟩:=hI.yok;have hdo:(L.getD i default).dst=o.dst:=by rw[hgi];simp only[hLd,List.getElem_map,hoi];exact qr4 _ _ hdf
   have hdig:(∃x g,qaS P N o=some x/\qeq ops o.guard=some g/\L.getD i default=⟨o.dst,x,g⟩)\/L.getD i default=⟨o.dst,.bad,none⟩:=by
    have:L.getD i default=qau P N ops o:=by rw[hgi];simp only[hLd,List.getElem_map,hoi]
    rw[this];unfold qau;split
    ·exact .inl ⟨_,_,by assumption,by assumption,by simp[hdf]⟩
    ·exact .inr rfl
   have hoN:o.dst=none\/∃d,o.dst=some d/\d<nt:=by
    cases hd:o.dst with
    |none=>exact .inl rfl
    |some d=>exact .inr ⟨d,rfl,hdst o (by rw[<-hoi];simp) d hd⟩
   have hinv:∀{v:PV} {H':CW} {u:CP} {w':CU} {S':qad} {β':Pl},Ext B w S w' S'->Swf w' S'->HOK C B w' S' β' H'->Later β β'->Ac C w' S' β' v u->Hc.length<=H'.length->Lb base β β'->
     Inv P N C E B base nt ⟨qcR fr o.dst v,H'⟩ (a.put o.dst u) w' S' β':=by
    intro v H' u w' S' β' e1 e2 e3 e4 e5 e6 e7;refine⟨e2,hI.gok.ext e1,zzL hI.hB e1.below.size,e3,?_,?_,?_,⟨yb,hyb,hyok.later e1 (e7.mono hyb)⟩,zzL hI.base e6⟩
    ·rcases hoN with hd|⟨d,hd,hdn⟩
     ·rw[hd];exact hI.fok.ext e1 e4
     ·rw[hd];exact (hI.fok.ext e1 e4).put (by rw[hI.size];exact hdn) e5
    ·cases hd:o.dst with
     |none=>exact hI.size
     |some d=>simp[Act.put,hI.size]
    ·rcases hoN with hd|⟨d,hd,hdn⟩
     ·rw[hd];exact hI.defers.ext e1 e4
     ·rw[hd];refine (hI.defers.ext e1 e4).frame λt ht=>?_;have hlt:=Nat.lt_of_lt_of_le hdn (zzL hng ht);show (fr.set d v).get t=_;rw[qdu,if_neg (λh=>Nat.lt_irrefl _ (h▸hlt))]
   rcases hdig with ⟨x,g,hx,hg,hLi⟩|hbad
   ·unfold wpOpIn;rw[ho];simp only;have hg0:g=none:=by rw[hLi]at hgn;exact hgn
    subst hg0;have hw:=qvz (ops:=ops) (o:=o) (b:=true) (x:=x) hI.fok hg rfl;rw[if_pos hw];have hx2:(L.getD i default).op=x:=by rw[hLi]
    rw[hx2]at hev hadd;have hid2:id0<Hc.length:=by rw[hD.h0];exact hid
    have hev2:qaa E (rd E fr) Hc (if x.adds then id0 else Hc.length) x=some (v,Hn):=by
     cases ha:x.adds with
     |true=>exact hev
     |false=>rw[<-hev];exact qoU ha _ _
    refine qtJ hO hN hI.gok hI.swf hI.hB hI.hok hI.fok hnd hyok (zzL hyb hI.base) hx ?_ hev2 ?_
    ·intro ha;rw[if_pos ha];have h0:i=0:=by
      rcases Nat.eq_zero_or_pos i with h|h
      ·exact h
      ·rw[hadd h]at ha;cases ha
     subst h0;exact⟨hpend hun,hid2⟩
    ·intro u w' S' β' e1 e2 e3 e4 e5 e6 e7;have hlb1:Lb base β β':=by
      intro o' ho';have hb:base<=Hc.length:=hI.base;refine⟨e4 o',λhp=>e7 o' (Nat.lt_of_lt_of_le ho' hb) ?_ hp⟩;split
      ·omega
      ·omega
     refine ih (listed.setIfInBounds i true) (a.put o.dst u) w' S' β' (qcR fr o.dst v) Hn hsz' hcl' hcnt' (hinv e1 e2 e3 e4 e5 e6 hlb1) ?_ ?_ (he.trans e1) (hlb.trans hlb1)
     ·rw[<-hdo];exact hD2
     ·intro hl0;rw[hset]at hl0;simp only[zzD,beq_eq_false_iff_ne]at hl0;refine e7 _ hid2 ?_ (hpend hl0.1);split
      ·rename_i ha;exact absurd (hadd (by omega)) (by rw[ha];decide)
      ·omega
   ·exfalso;have hk:=qpL hL hlit hiL;rw[hbad]at hk;generalize hq:(⟨o.dst,.bad,none⟩:Ap)=q at hk;have hq2:=congrArg Ap.op hq;cases hk with
    |mk=>cases hq2
    |ag t x k hx _ _=>have hq2:IOp.bad=x:=hq2;subst hq2;cases hx
    |ms=>cases hq2
    |mv=>cases hq2
def qJi{L:CL Ap}{bf:CF}(hlit:qdd L bf=true):∀o∈L,o.op≠.bad/\∀x y,o.op≠.dfr x y:=by
 intro o ho;obtain⟨t0,r0,hL⟩:∃t0 r0,L=⟨some t0,.Bz,none⟩::r0:=by
  have h:=hlit;unfold qdd at h;split at h
  ·rename_i t0 r0;exact⟨t0,r0,rfl⟩
  ·cases h
 obtain⟨j,hj,e⟩:=zzO ho;have hk:=qpL hL hlit hj;rw[List.getD_eq_getElem?_getD,zze hj,zzA,e]at hk;cases hk with
 |mk=>exact⟨(λh=>by cases h),(λx y h=>by cases h)⟩
 |ag t x k hx _ _=>exact⟨(λh=>by have h:x=.bad:=h;subst h;cases hx),(λy z h=>by have h:x=.dfr y z:=h;subst h;cases hx)⟩
 |ms=>exact⟨(λh=>by cases h),(λx y h=>by cases h)⟩
 |mv=>exact⟨(λh=>by cases h),(λx y h=>by cases h)⟩
def qPg(hO:OrOK P C N E)(hN:NOK P N C E.G)(hng:nt<=gh){id:Nat}{ops:Array Oper}{s s':St}{a:Act}{w:CU}{S:qad}{β:Pl}{Q:Exit->Act->CU->Prop}(hnof:∀o∈ops.toList,qb7 o.op=false)(hdst:∀o∈ops.toList,∀d,o.dst=some d->d<nt)
  (hok:qi2 ops.toList (ops.toList.map (qau P N ops))=true) (hlit:qdd (ops.toList.map (qau P N ops)) (bef ops.toList [])=true) (he:qaF E (ops.toList.map (qau P N ops)) s.H.length ⟨s.fr,s.H++List.replicate (qar (ops.toList.map (qau P N ops))) none⟩=some s') (hI:Inv P N C E B base nt s a w S β)
  (hQ:∀a' w' S' β',Inv P N C E B base nt s' a' w' S' β'->Ext B w S w' S'->Lb base β β'->Q .normal a' w'):(Code.region id ops true).wpIn (FR ro) nf P Q a w:=by
 refine wpIn_region_any hN.mixed ?_;have hd:(w.drew:CU)={ w with drawn:=w.drawn+1 }:=rfl;rw[<-hd];obtain⟨t0,r0,hL⟩:∃t0 r0,ops.toList.map (qau P N ops)=⟨some t0,.Bz,none⟩::r0:=by
  have h:=hlit;unfold qdd at h;split at h
  ·rename_i t0 r0 e;exact⟨t0,r0,e⟩
  ·cases h
 have hno:∀j,(Array.replicate ops.size false).getD j false=false:=λj=>by simp[zzx,Array.getElem?_replicate];split<;>rfl
 have hna:1<=qar (ops.toList.map (qau P N ops)):=by rw[hL];simp only[qar,IOp.adds,if_true];omega
 have hid:s.H.length<(s.H++List.replicate (qar (ops.toList.map (qau P N ops))) none).length:=by simp only[zzp,List.length_replicate];omega
 have hp:0<(ops.toList.map (qau P N ops)).length:=by rw[hL];simp
 have D0:Desc (ops.toList.map (qau P N ops)) s.H.length s.fr (s.H++List.replicate (qar (ops.toList.map (qau P N ops))) none) (λ_=>false) s.fr (s.H++List.replicate (qar (ops.toList.map (qau P N ops))) none):=
  ⟨λ_ _ h=>by (cases h),λ_ _=>rfl,rfl,λ_ _=>rfl,λ_=>⟨rfl,λ_ _ h=>by (cases h)⟩,λh=>by (cases h)⟩
 have Ds:=qz2 hL hlit hid (fr0:=s.fr) _ 0 s.H.length s.fr _ s' (Nat.zero_add _) (qkA (λj _=>by simp) hp D0) (λ_=>rfl) (by rw[List.drop_zero];exact he);obtain⟨yb,hyb,hyok⟩:=hI.yok;have hg:=qmZ hI.hok (qar (ops.toList.map (qau P N ops)));refine qJh (B:=B) (base:=base) (nt:=nt) (id0:=s.H.length) (fr0:=s.fr) (H0:=s.H++List.replicate (qar (ops.toList.map (qau P N ops))) none) (w0:=w) (S0:=S) (β0:=β) hO hN hng hnof rfl hdst hok hL hlit hid hI.base ?_ ops.size (Array.replicate ops.size false) a w.drew S β s.fr (s.H++List.replicate (qar (ops.toList.map (qau P N ops))) none) (by simp) ?_ ?_ ?_ ?_ ?_ (qb4 (B:=B)) (Lb.refl _ _)
 ·intro a' w' S' β' fr H hI' D e1 e2;refine hQ a' w' S' β' ?_ e1 e2;obtain⟨es,b1,b2⟩:=D.h3 rfl;obtain⟨es',b3,b4⟩:=Ds.h3 rfl;have hpe:es.Perm es':=b2.trans b4.symm;have hob:∀o,o≠s.H.length->s'.H.obj o=H.obj o:=λo ho=>(Ds.h1 o ho).trans (D.h1 o ho).symm;have hlen:s'.H.length=H.length:=Ds.h0.trans D.h0.symm;have eqf:∀t,s'.fr.get t=fr.get t:=by
   intro t;by_cases h:∃j,j<(ops.toList.map (qau P N ops)).length/\((ops.toList.map (qau P N ops)).getD j default).dst=some t
   ·obtain⟨j,hj,ht⟩:=h;rw[D.f1 j hj rfl t ht,Ds.f1 j hj rfl t ht]
   ·rw[D.f2 t λj hj _ ht=>h ⟨j,hj,ht⟩,Ds.f2 t λj hj _ ht=>h ⟨j,hj,ht⟩]
  refine⟨hI'.swf,hI'.gok,hI'.hB,⟨?_,?_,?_,hI'.hok.inj,?_,?_,hI'.hok.spi⟩,?_,hI'.size,hI'.defers.frame (λt _=>eqf t),hI'.yok,by rw[hlen];exact hI'.base⟩
  ·intro o blk b k h;by_cases ho:o=s.H.length
   ·subst ho;obtain⟨h1,x,cells,e,h2,-,-,h3⟩:=hI'.hok.live _ blk b k h;rw[b1]at h2;cases h2;exact h3.elim
   ·rw[hob o ho];exact hI'.hok.live o blk b k h
  ·intro o h;by_cases ho:o=s.H.length
   ·subst ho;have:=hI'.hok.dead _ h;rw[b1]at this;cases this
   ·rw[hob o ho];exact hI'.hok.dead o h
  ·intro o h;by_cases ho:o=s.H.length
   ·subst ho;obtain⟨k,r,h2⟩:=hI'.hok.Bq _ h;rw[b1]at h2;cases h2
   ·rw[hob o ho];exact hI'.hok.Bq o h
  ·intro o h;rw[hlen]at h;exact hI'.hok.out o h
  ·intro o blk x h;by_cases ho:o=s.H.length
   ·subst ho;obtain⟨h1,y,h2,h3⟩:=hI'.hok.sp _ blk x h;rw[b1]at h2;cases h2;refine⟨h1,_,b3,?_⟩;cases x with
    |map=>obtain⟨ms,clock,q1,q2⟩:=h3;exact⟨ms,clock,q1,q2.perm hpe⟩
    |iter=>exact h3.elim
    |loop r=>exact h3.elim
    |defer=>exact h3.elim
   ·rw[hob o ho];exact hI'.hok.sp o blk x h
  ·intro t;rw[eqf];exact hI'.fok t
 ·intro j hj hl;rw[hno]at hl;cases hl
 ·refine zzL (List.countP_le_length) ?_;simp
 ·refine⟨hI.swf.ext (qb4 (B:=B)),hI.gok.ext (qb4 (B:=B)),hI.hB,hg.drew,hI.fok.ext (qb4 (B:=B)) (Later.refl _),hI.size,hI.defers.ext (qb4 (B:=B)) (Later.refl _),⟨yb,hyb,hyok.later (qb4 (B:=B)) (Lb.refl _ _)⟩,?_⟩;have:=hI.base;simp only[zzp];omega
 ·exact qkA (λj _=>(hno j).symm) hp D0
 ·intro _;exact hI.hok.out _ (zzt _)
end
def qI7{P:CV}{n:Nat}{fn:Func}{tmps:Array CP}{R:Ending->CU->Prop}:∀(ds:CL Deferred) (u:FrameMode) (w:CU) (fr:Frame) (cs:CL Frame),fr.mode=u->fr.defers=ds->fr.tmps=tmps->P.funcs[fr.fn]? = some fn->fr.kind=.deferred->
  LeavesInM Fence.wide n P fn tmps R ds u w->∃e w' fr',R e w'/\Comes P (lone fr cs w) (lone fr' cs w') e/\fr'.fn=fr.fn/\fr'.kind=.deferred/\fr'.going P w' e:=by
 intro ds;induction ds with
 |nil=>
  intro u w fr cs hu hd ht hf hk h;cases u with
  |run=>exact h.elim
  |returning=>obtain⟨v,h1,h2⟩:=h;exact⟨.returned v,w,fr,h2,Steps.refl _ _,rfl,hk,hu,hd,fn,hf,ht▸h1⟩
  |panicking c=>exact⟨.panicked c,w,fr,h,Steps.refl _ _,rfl,hk,hu,hd,fn,hf⟩
 |cons d ds ih=>
  intro u w fr cs hu hd ht hf hk h;obtain⟨hrun,h⟩:=h;subst hu;rcases h with ⟨r,w1,h1,h2,h3⟩|⟨-,fv,cap,f,args,h1,h2,-,h3⟩
  ·have hs:=step_collected (P:=P) (cs:=cs) hrun hd h1 h2;obtain⟨e,w2,fr2,q1,q2,q3,q4,q5⟩:=ih fr.mode w1 { fr with defers:=[]++ds } cs rfl rfl ht hf hk h3;exact⟨e,w2,fr2,q1,.of_steps (.one hs) q2,q3,q4,q5⟩
  ·have hs:=step_defer (P:=P) (cs:=cs) hrun hd h1 h2;obtain⟨e,u1,w1,fr1,r1,r2,r3,-,r5⟩:=h3.2 { fr with defers:=ds } cs rfl (room_wide _);have r2:=comesIn_wide.1 r2;cases e with
   |outgrown=>exact⟨.outgrown,w1,fr,r1,Outgrown.of_steps (.one hs) r2,rfl,hk,trivial⟩
   |returned v=>have h4:=step_going_returned (c:={ { fr with defers:=ds }with mode:=u1 }) (cs:=cs) r3 r5;obtain⟨e,w2,fr2,q1,q2,q3,q4,q5⟩:=ih (settle u1) w1 { { { fr with defers:=ds }with mode:=u1 }with mode:=settle u1 } cs rfl rfl ht hf hk r1;exact⟨e,w2,fr2,q1,.of_steps (.head hs (Steps.trans r2 (.one h4))) q2,q3,q4,q5⟩
   |panicked ch=>have h4:=step_going_panicked (c:={ { fr with defers:=ds }with mode:=u1 }) (cs:=cs) r5;obtain⟨e,w2,fr2,q1,q2,q3,q4,q5⟩:=ih (raised u1 ch) w1 { { { fr with defers:=ds }with mode:=u1 }with mode:=raised u1 ch } cs rfl rfl ht hf hk r1;exact⟨e,w2,fr2,q1,.of_steps (.head hs (Steps.trans r2 (.one h4))) q2,q3,q4,q5⟩
def qEL{P:CV}{n:Nat}{f:FuncId}{fn:Func}{c:Code}{args:Array CP}{u:FrameMode}{w:CU}{R:Ending->CU->Prop}(hf:P.funcs[f]? = some fn)(hb:fn.body=some c)
  (h:c.wpIn Fence.wide n P (bodyPostM Fence.wide n P fn R) { tmps:=args++Array.replicate (fn.ntmps-args.size) undef,defers:=[] } w):CallsDIn Fence.wide n P f args u w λe u' w'=>u'=u/\R e w':=by
 refine⟨trivial,λc0 cs hu _=>?_⟩;have hc:({ c0 with mode:=u }:Frame)=c0:=by subst hu;rfl
 let b:Frame:={ (default:Frame)with fn:=f,kind:=.deferred,roundOf:=none };have henter:Frame.enter P f args .deferred=b.atR { tmps:=args++Array.replicate (fn.ntmps-args.size) undef,defers:=[] } [.code c]:=by simp[Frame.enter,Frame.atR,hf,hb,b]
 obtain⟨e,a',w',hq,harr⟩:=h b [] (c0::cs) rfl trivial (room_wide _);rw[<-henter]at harr;have fin:∀(m:FrameMode) (fr:Frame),fr.mode=m->fr.defers=a'.defers->fr.tmps=a'.tmps->fr.fn=f->fr.kind=.deferred->Steps P (lone (Frame.enter P f args .deferred) (c0::cs) w) (lone fr (c0::cs) w')->LeavesInM Fence.wide n P fn a'.tmps R a'.defers m w'->
   ∃e u' w'' fr',(u'=u/\R e w'')/\ComesIn (Machine.fenced P Fence.wide) P (lone (Frame.enter P f args .deferred) (c0::cs) w) (lone fr' ({ c0 with mode:=u' }::cs) w'') e/\fr'.kind=.deferred/\fr'.fn=f/\fr'.going P w'' e:=by
  intro m fr g1 g2 g3 g4 g5 hs hl;obtain⟨e',w2,fr',q1,q2,q3,q4,q5⟩:=qI7 a'.defers m w' fr (c0::cs) g1 g2 g3 (by rw[g4];exact hf) g5 hl;exact⟨e',u,w2,fr',⟨rfl,q1⟩,(by rw[hc];exact comesIn_wide.2 (.of_steps hs q2)),q4,q3.trans g4,q5⟩
 cases e with
 |normal=>exact fin .returning { b.atR a' []with mode:=.returning } rfl rfl rfl rfl rfl (Steps.trans (stepsIn_wide.1 harr) (.one (stepR_end rfl))) hq
 |ret=>obtain⟨todo,hs⟩:=harr.1 rfl;exact fin .returning { b.atR a' todo with mode:=.returning } rfl rfl rfl rfl rfl (stepsIn_wide.1 hs) hq
 |panic ch=>obtain⟨todo,hs⟩:=harr;exact fin (.panicking ch) { b.atR a' todo with mode:=.panicking ch } rfl rfl rfl rfl rfl (stepsIn_wide.1 hs) hq
 |exit id=>exact hq.elim
 |goto l=>exact hq.elim
 |outgrown=>refine⟨.outgrown,u,w',b,⟨rfl,hq⟩,?_,rfl,rfl,trivial⟩;exact harr.resolve_left (by simp[b])
section
variable {P:CV}{N:Names}{C:Cx}{w:CU}{S:qad}{β:Pl}{B:Nat}{H:CW}{a:Act}{E:Env}
def qyz(hH:HOK C B w S β H)(hS:Swf w S){o blk:Nat}{x:Sp}(hb:β o=.sp blk x)(ob:Go.Obj) :
  Ext B w S (w.putObj blk ob) S/\HOK C B (w.putObj blk ob) S (upd β o .dead) (H.put o none)/\Later β (upd β o .dead):=by
 obtain⟨g1,y,g2,g3⟩:=hH.sp o blk x hb;obtain⟨o0,g4,g5⟩:=g3.obj;have hext:=qt0 hS g1 g4 g5 ob;obtain⟨k1,k2⟩:=qsF hH o (qic g2);refine⟨hext,k1.ext hext ?_ (λ_ _ _ _ _ _ h=>h) ?_,k2 (by rw[hb];simp)⟩
 ·intro o' blk' base k h;obtain⟨-,x0,c0,e0,-,-,h4,-⟩:=k1.live o' blk' base k h;refine World.putObj_heap_other (λhq=>?_);subst hq;rw[g4]at h4;cases h4;exact g5 _ _ _ rfl
 ·intro o' blk' x' h;refine World.putObj_heap_other (λhq=>?_);subst hq;by_cases ho:o'=o
  ·subst ho;rw[qa5]at h;cases h
  ·rw[qaC ho]at h;exact ho (hH.spi _ _ _ _ _ h hb)
def qnC(H:CW)(base:Nat):∀(n:Nat) (acc todo:CF),acc.Nodup->(∀o∈acc,base<=o)->(qaH H base n acc todo).Nodup/\∀o∈qaH H base n acc todo,base<=o
 |0,acc,_,h1,h2=>⟨h1,h2⟩
 |_+1,acc,[],h1,h2=>⟨h1,h2⟩
 |n+1,acc,o::todo,h1,h2=>by
  simp only[qaH];split
  ·exact qnC H base n acc todo h1 h2
  ·split
   ·exact qnC H base n acc todo h1 h2
   ·rename_i hlt hc;refine qnC H base n _ _ ?_ ?_
    ·rw[List.nodup_append];refine⟨h1,by simp,?_⟩;intro x hx y hy;simp at hy;subst hy;rintro rfl;simp at hc;exact hc hx
    ·intro x hx;rcases zzB.1 hx with hx|hx
     ·exact h2 x hx
     ·simp at hx;omega
def gcβ(β:Pl)(base:Nat)(ids:CF):Pl:=λn=>if n<base then β n else match ids[n-base]? with|some o=>β o|none=>.pend
def qqa{base:Nat}{ids:CF}{o o':Nat}(h:qaJ base ids o=some o'):gcβ β base ids o'=β o:=by
 by_cases hlt:o<base
 ·simp only[qaJ,hlt,if_true,zzb]at h;subst h;simp[gcβ,hlt]
 ·simp only[qaJ,hlt,if_false,Option.map_eq_some_iff]at h;obtain⟨i,hi,rfl⟩:=h;have:ids[i]? = some o:=by rw[List.idxOf?_eq_some_iff]at hi;obtain⟨h1,h2,-⟩:=hi;rw[zze h1];simpa using h2
  have e:¬(base+i<base):=by omega
  simp only[gcβ,e,if_false,Nat.add_sub_cancel_left,this]
def PV.BN(ρ:Nat->CK Nat):∀cs:Cz,(PV.Bp ρ cs).length=cs.length
 |[]=>rfl
 |v::vs=>by simp[PV.Bp,PV.BN ρ vs]
def PV.Co(ρ:Nat->CK Nat):∀(cs:Cz) (j:Nat) (hj:j<cs.length) (hj':j<(PV.Bp ρ cs).length),(PV.Bp ρ cs)[j]=(cs[j]).ren ρ
 |[],j,hj,_=>absurd hj (zzm _)
 |v::vs,0,_,_=>rfl
 |v::vs,j+1,hj,hj'=>by simp only[PV.Bp,zzG];exact PV.Co ρ vs j _ _
def qqj{β':Pl}{ρ:Nat->CK Nat}(hρ:∀o o',ρ o=some o'->β' o'=β o){x:PV}{v:CP}(h:Ac C w S β x v):Ac C w S β' (x.ren ρ) v:=by
 induction h with
 |u v=>exact .u v
 |d x v h=>exact .d x v h
 |a cs vs h1 h2 _ ih=>refine .a _ vs (by rw[PV.BN];exact h1) h2 ?_;intro j hj hj';rw[PV.BN]at hj;rw[PV.Co ρ cs j hj];exact ih j hj hj'
 |t cs vs h1 _ ih=>refine .t _ vs (by rw[PV.BN];exact h1) ?_;intro j hj hj';rw[PV.BN]at hj;rw[PV.Co ρ cs j hj];exact ih j hj hj'
 |r o k off len t v h0 h=>
  simp only[PV.ren];cases ho:ρ o with
  |none=>exact .u v
  |some o'=>
   refine .r _ _ _ _ _ _ h0 ?_;unfold RelRf at *
   rw[hρ o o' ho];exact h
 |p o i c v h0 h=>
  simp only[PV.ren];cases ho:ρ o with
  |none=>exact .u v
  |some o'=>
   refine .p _ _ _ _ h0 ?_;unfold RelPt at *
   rw[hρ o o' ho];exact h
 |q x k c blk off f h1 h2=>exact .q x k c blk off f h1 h2
 |f n cs vs h1 _ ih=>refine .f n _ vs (by rw[PV.BN];exact h1) ?_;intro j hj hj';rw[PV.BN]at hj;rw[PV.Co ρ cs j hj];exact ih j hj hj'
 |h o v h0 h=>
  simp only[PV.ren];cases ho:ρ o with
  |none=>exact .u v
  |some o'=>
   refine .h _ _ h0 ?_;unfold RelH at *
   rw[hρ o o' ho];exact h
 |g x v=>exact .g _ v
 |m n cs vs h1 _ ih=>refine .m n _ vs (by rw[PV.BN];exact h1) ?_;intro j hj hj';rw[PV.BN]at hj;rw[PV.Co ρ cs j hj];exact ih j hj hj'
 |w t x v _ ih=>exact .w t _ v ih
def qsr{ρ:Nat->CK Nat}{base:Nat}{ids:CF}(hb:base<=H.length):(gcH ρ H base ids).length=base+ids.length:=by simp[gcH];omega
def qyb{ρ:Nat->CK Nat}{base:Nat}{ids:CF}(hb:base<=H.length)(n:Nat):Heap.obj (gcH ρ H base ids) n=if n<base then (H.obj n).map (·.ren ρ)else match ids[n-base]? with|some o=>(H.obj o).map (·.ren ρ)|none=>none:=by
 show (match (gcH ρ H base ids)[n]? with|some x=>x|none=>none)=_;by_cases hn:n<base
 ·have e:(gcH ρ H base ids)[n]? = (H[n]?).map (·.map (·.ren ρ)):=by unfold gcH;rw[List.getElem?_append_left (by simp;omega),zzj,List.getElem?_take,if_pos hn]
  rw[e,if_pos hn];unfold Heap.obj;cases H[n]? with
  |none=>rfl
  |some x=>cases x<;>rfl
 ·have e:(gcH ρ H base ids)[n]? = (ids[n-base]?).map λo=>(H.obj o).map (·.ren ρ):=by
   unfold gcH;have hl:(List.map (Option.map (·.ren ρ)) (List.take base H)).length=base:=by simp;omega
   rw[List.getElem?_append_right (by rw[hl];omega),hl,zzj]
  rw[e,if_neg hn];cases ids[n-base]? <;> rfl
def OCells.ren{β':Pl}{ρ:Nat->CK Nat}(hρ:∀o o',ρ o=some o'->β' o'=β o){cells:Array CP}{blk base:Nat}{x:Obj}(h:OCells C w S β cells blk base x):OCells C w S β' cells blk base (x.ren ρ):=by
 cases x with
 |box k v=>obtain⟨h0,f,h1,h2,h3⟩:=h;exact⟨h0,f,h1,qqj hρ h2,h3⟩
 |sl k ro es=>exact h
 |mp es=>exact h
 |si s p=>exact h
 |lp st j=>exact h
 |df=>exact h
def Obj.ren_shape(ρ:Nat->CK Nat)(x:Obj):(x.ren ρ).shape=x.shape:=by cases x<;>rfl
def SpOK.ren{blk:Nat}{x:Sp}{y:Obj}(h:SpOK w S blk x y)(ρ:Nat->CK Nat):SpOK w S blk x (y.ren ρ):=by
 cases y with
 |box k v=>cases x<;>exact h
 |_=>exact h
def qyw(hH:HOK C B w S β H){base:Nat}(hb:base<=H.length){ids:CF}(hn:ids.Nodup)(hi:∀o∈ids,base<=o):HOK C B w S (gcβ β base ids) (gcH (qaJ base ids) H base ids):=by
 have hρ:∀o o',qaJ base ids o=some o'->gcβ β base ids o'=β o:=λo o' h=>qqa h;have from_:∀n,gcβ β base ids n≠.pend->∃o,gcβ β base ids n=β o/\Heap.obj (gcH (qaJ base ids) H base ids) n=(H.obj o).map (·.ren (qaJ base ids))/\((n<base/\o=n)\/(base<=n/\ids[n-base]? = some o)):=by
  intro n h;by_cases hlt:n<base
  ·exact⟨n,by simp[gcβ,hlt],by rw[qyb hb,if_pos hlt],.inl ⟨hlt,rfl⟩⟩
  ·cases ho:ids[n-base]? with
   |none=>simp[gcβ,hlt,ho]at h
   |some o=>exact⟨o,by simp[gcβ,hlt,ho],by rw[qyb hb,if_neg hlt,ho],.inr ⟨by omega,rfl⟩⟩
 have same:∀n n' o o',o=o'->((n<base/\o=n)\/(base<=n/\ids[n-base]? = some o))->((n'<base/\o'=n')\/(base<=n'/\ids[n'-base]? = some o'))->n=n':=by
  intro n n' o o' hoo h3 h3';subst hoo;rcases h3 with ⟨q1,rfl⟩|⟨q1,q2⟩
  ·rcases h3' with ⟨p1,rfl⟩|⟨p1,p2⟩
   ·rfl
   ·have:=hi _ (List.mem_of_getElem? p2);omega
  ·rcases h3' with ⟨p1,rfl⟩|⟨p1,p2⟩
   ·have:=hi _ (List.mem_of_getElem? q2);omega
   ·obtain⟨i1,i2⟩:=zzk.1 q2;obtain⟨j1,j2⟩:=zzk.1 p2;have hpw:=List.pairwise_iff_getElem.1 hn;rcases Nat.lt_trichotomy (n-base) (n'-base)with hlt|heq|hgt
    ·exact absurd (i2.trans j2.symm) (hpw _ _ i1 j1 hlt)
    ·omega
    ·exact absurd (j2.trans i2.symm) (hpw _ _ j1 i1 hgt)
 refine⟨?_,?_,?_,?_,?_,?_,?_⟩
 ·intro n blk b k h;obtain⟨o,h1,h2,-⟩:=from_ n (by rw[h];simp);rw[h1]at h;obtain⟨a1,x,cells,e,a2,a3,a4,a5⟩:=hH.live o blk b k h;exact⟨a1,x.ren (qaJ base ids),cells,e,by rw[h2,a2];rfl,by rw[Obj.ren_shape];exact a3,a4,a5.ren hρ⟩
 ·intro n h;obtain⟨o,h1,h2,-⟩:=from_ n (by rw[h];simp);rw[h1]at h;rw[h2,hH.dead o h];rfl
 ·intro n h;obtain⟨o,h1,h2,-⟩:=from_ n (by rw[h];simp);rw[h1]at h;obtain⟨k,ro,h3⟩:=hH.Bq o h;exact⟨k,ro,by rw[h2,h3];rfl⟩
 ·intro n n' blk b k b' k' h h';obtain⟨o,h1,-,h3⟩:=from_ n (by rw[h];simp);obtain⟨o',h1',-,h3'⟩:=from_ n' (by rw[h'];simp);rw[h1]at h;rw[h1']at h';exact same n n' o o' (hH.inj o o' blk b k b' k' h h') h3 h3'
 ·intro n h;rw[qsr hb]at h;have h1:¬n<base:=by omega
  have h2:ids[n-base]? = none:=by rw[List.getElem?_eq_none_iff];omega
  simp[gcβ,h1,h2]
 ·intro n blk x h;obtain⟨o,h1,h2,-⟩:=from_ n (by rw[h];simp);rw[h1]at h;obtain⟨a1,y,a2,a3⟩:=hH.sp o blk x h;exact⟨a1,y.ren (qaJ base ids),by rw[h2,a2];rfl,a3.ren _⟩
 ·intro n n' blk x x' h h';obtain⟨o,h1,-,h3⟩:=from_ n (by rw[h];simp);obtain⟨o',h1',-,h3'⟩:=from_ n' (by rw[h'];simp);rw[h1]at h;rw[h1']at h';exact same n n' o o' (hH.spi o o' blk x x' h h') h3 h3'
def qtd(base:Nat)(ids:CF):Lb base β (gcβ β base ids):=λo ho=>by
 have:gcβ β base ids o=β o:=by simp[gcβ,ho]
 exact⟨.inl this,λh=>this.trans h⟩
def PV.ren_ne{ρ:Nat->CK Nat}{x:PV}(h:x.ren ρ≠.u):x≠.u:=λhx=>h (by subst hx;rfl)
def DRel.ren{β':Pl}{ρ:Nat->CK Nat}(hρ:∀o o',ρ o=some o'->β' o'=β o){x:PV}{d:Deferred}(h:DRel C w S β x d):DRel C w S β' (x.ren ρ) d:=by
 unfold DRel at h;split at h
 ·rename_i o;obtain⟨r,h1,h2⟩:=h;simp only[PV.ren];cases ho:ρ o with
  |none=>trivial
  |some o'=>exact⟨r,h1,by rw[hρ o o' ho];exact h2⟩
 ·rename_i n caps;obtain⟨us,h1,h2,h3⟩:=h;refine⟨us,h1,by rw[PV.BN];exact h2,λj hj hj'=>?_⟩;rw[PV.Co ρ caps j (by rw[PV.BN]at hj;exact hj)];exact qqj hρ (h3 j _ hj')
 ·trivial
 ·exact h.elim
def DfRel.ren{β':Pl}{ρ:Nat->CK Nat}(hρ:∀o o',ρ o=some o'->β' o'=β o){fr:Fr}{ds:CL Deferred}(h:DfRel C w S β fr ds):DfRel C w S β' (fr.ren ρ) ds:=by obtain⟨sl,h1,h2,h3,h4,h5⟩:=h;refine⟨sl,h1,h2,λt ht hn=>h3 t ht (PV.ren_ne (by rw[qpg]at hn;exact hn)),h4,λj hj hj'=>?_⟩;rw[qpg];exact (h5 j hj hj').ren hρ
def qGk{base nt:Nat}{s:St}(hI:Inv P N C E B base nt s a w S β)(live:CF):∃β',Inv P N C E B base nt (gc live base s) a w S β'/\Lb base β β':=by
 obtain⟨h1,h2⟩:=qnC s.H base 1000 [] (qaw (Fr.keep live s.fr)++qat (s.H.take base)) (by simp) (by simp);obtain⟨yb,hyb,hyok⟩:=hI.yok;refine⟨_,⟨hI.swf,hI.gok,hI.hB,qyw hI.hok hI.base h1 h2,?_,hI.size,?_,⟨yb,hyb,hyok.later (Ext.refl B w S) ((qtd _ _).mono hyb)⟩,?_⟩,qtd _ _⟩
 ·intro t;simp only[gc];rw[qpg];refine qqj (λo o' h=>qqa h) ?_;rcases qGp live t s.fr with h|h
  ·rw[h];exact hI.fok t
  ·rw[h];exact .u _
 ·simp only[gc];exact (hI.defers.frame (fr':=Fr.keep live s.fr) (λt ht=>qGq live ht s.fr)).ren (λo o' h=>qqa h)
 ·simp only[gc];rw[qsr hI.base];omega
def qyc{v:PV}{u:CP}(hH:HOK C B w S β H)(hv:Ac C w S β v u){base:Nat}(hb:base<=H.length):∃β',HOK C B w S β' (gcV base v H).2/\Ac C w S β' (gcV base v H).1 u/\Lb base β β'/\base<=(gcV base v H).2.length:=by obtain⟨h1,h2⟩:=qnC H base 1000 [] (v.refs++qat (H.take base)) (by simp) (by simp);refine⟨_,qyw hH hb h1 h2,qqj (λo o' h=>qqa h) hv,qtd _ _,?_⟩;simp only[gcV];rw[qsr hb];omega
end
def qi3(nt:Nat)(inr:CO)(o:Ap):CO:=match o.op with
 |.dfr _ _=>!inr
 |_=>match o.dst with|some d=>decide (d<nt)|none=>true
def qcj(nt:Nat)(inr:CO):PC->CO
 |.reg ops _=>ops.all (qi3 nt inr)
 |.Ba ops _ _=>ops.all (qi3 nt inr)
 |.seq x y=>qcj nt inr x&&qcj nt inr y
 |.cond _ x y=>qcj nt inr x&&qcj nt inr y
 |.block _ x=>qcj nt inr x
 |.loop _ x=>qcj nt inr x
 |.rng _ g ps _ a x=>!inr&&Nat.ble gh g&&ps.all (λp=>decide (p<nt))&&qcj nt true a&&qcj nt true x
 |_=>true
def qoW:Ex->Exit
 |.norm=>.normal
 |.exit id=>.exit id
 |.ret=>.ret
def qsz(l:CF){t:Nat}(h:gh<=t):∀fr:Fr,(fr.only l).get t=.u
 |[]=>rfl
 | (j,x)::r=>by
  simp only[Fr.only];split
  ·rename_i hc;simp only[zzf,Nat.blt_eq]at hc;simp only[Fr.get];rw[if_neg (by omega)];exact qsz l h r
  ·exact qsz l h r
def qsy(l:CF)(t:Nat):∀fr:Fr,(fr.only l).get t=if l.contains t&&Nat.blt t gh then fr.get t else .u
 |[]=>by simp[Fr.only,Fr.get]
 | (j,x)::r=>by
  simp only[Fr.only];split
  ·rename_i hc;simp only[Fr.get];split
   ·rename_i hj;subst hj;rw[if_pos hc]
   ·exact qsy l t r
  ·rename_i hc;rw[qsy l t r];by_cases hj:j=t
   ·subst hj;rw[if_neg hc,if_neg hc]
   ·simp[Fr.get,hj]
def qGr(l:CF)(t:Nat)(fr:Fr):(fr.only l).get t=fr.get t\/(fr.only l).get t=.u:=by
 rw[qsy];split
 ·exact .inl rfl
 ·exact .inr rfl
def qyp{t:Nat}:∀(ps:CF) (vs:Cz) (fr:Fr),t∉ps->(qdR fr ps vs).get t=fr.get t
 |[],vs,fr,_=>by cases vs<;>rfl
 |p::ps,[],fr,_=>rfl
 |p::ps,v::vs,fr,h=>by simp only[qdR];rw[qyp ps vs _ (λhm=>h (zzi _ hm)),qdu,if_neg (λhq=>h (by rw[hq];exact zzr ..))]
section
variable {P:CV}{N:Names}{C:Cx}{w:CU}{S:qad}{β:Pl}{B:Nat}{H:CW}{a:Act}{E:Env}
def qx0:∀(ps:CF) (args:Cz) (us:CL CP) (fr:Fr) (tmps:Array CP),args.length=us.length->(∀p∈ps,p<tmps.size)->(∀t,Ac C w S β (fr.get t) (tmps.getD t undef))->
  (∀j (h:j<args.length) (h':j<us.length),Ac C w S β args[j] us[j])->∀t,Ac C w S β ((qdR fr ps args).get t) (((ps.zip us).foldl (λtmps (x:Nat×CP)=>tmps.setIfInBounds x.1 x.2) tmps).getD t undef)
 |[],args,us,fr,tmps,_,_,hf,_,t=>by cases args<;>exact hf t
 |p::ps,[],us,fr,tmps,hl,_,hf,_,t=>by
  have:us=[]:=by cases us with|nil=>rfl|cons _ _=>simp at hl
  subst this;exact hf t
 |p::ps,v::args,[],fr,tmps,hl,_,_,_,t=>by simp at hl
 |p::ps,v::args,u::us,fr,tmps,hl,hp,hf,hr,t=>by
  simp only[qdR,List.zip_cons_cons,List.foldl_cons];have hsz:p<tmps.size:=hp p (zzr ..);refine qx0 ps args us _ _ (by simpa using hl) (λq hq=>by simpa using hp q (zzi _ hq)) ?_ (λj hj hj'=>hr (j+1) (by simpa using hj) (by simpa using hj')) t;intro t';rw[qdu];split
  ·rename_i ht;subst ht;have:=hr 0 (by simp) (by simp);simpa[zzx,hsz]using this
  ·rename_i ht;have:=hf t';simp only[zzx]at this⊢;rw[Array.getElem?_setIfInBounds_ne (λe=>ht e.symm)];exact this
def qCg:∀(l:CL (Nat×CP)) (tmps:Array CP),(l.foldl (λtmps (x:Nat×CP)=>tmps.setIfInBounds x.1 x.2) tmps).size=tmps.size
 |[],_=>rfl
 |x::l,tmps=>by rw[List.foldl_cons,qCg l];simp
def qKL(H:CW)(x y:CK Obj):(Heap.put (Heap.put (H++List.replicate 2 none) (H.length+1) y) H.length x)=H++[x,y]:=by simp[Heap.put,List.replicate]
def qDh(ps:Array Tmp)(us:CL CP)(tmps:Array CP):(ps.zip us.toArray).foldl (λtmps (t,a)=>tmps.setIfInBounds t a) tmps=(ps.toList.zip us).foldl (λtmps (x:Nat×CP)=>tmps.setIfInBounds x.1 x.2) tmps:=by rw[<-Array.foldl_toList];simp only[Array.toList_zip]
def qtc{b:Nat}{β':Pl}(h:Lb b β β')(ho:∀o,b<=o->β o=.pend):Later β β':=λo=>by
 rcases Nat.lt_or_ge o b with h1|h1
 ·exact (h o h1).1
 ·exact .inr (.inr (ho o h1))
def CS(P:CV)(N:Names)(C:Cx)(E:Env)(B nt n:Nat)(pc:PC)(c:Code):Prop:=
 ∀(base:Nat) (ro:CK Nat) (nf:Nat),qcj nt ro.isSome pc=true->∀(s s':St) (ex:Ex) (a:Act) (w:CU) (S:qad) (β:Pl) (Q:Exit->Act->CU->Prop),
  qag E (lpN n) base pc s=some (ex,s')->Inv P N C E B base nt s a w S β->(∀a' w' S' β',Inv P N C E B base nt s' a' w' S' β'->Ext B w S w' S'->Lb base β β'->Q (qoW ex) a' w')->c.wpIn (FR ro) nf P Q a w
def qqv{β':Pl}{b o blk:Nat}{x:Sp}{y:Obj}{H':CW}{w':CU}{S':qad}(hb:β o=.sp blk x)(hl:β' o=β o\/β' o=.dead\/β o=.pend)(hH:HOK C b w' S' β' H')(hy:H'.obj o=some y):β' o=.sp blk x/\SpOK w' S' blk x y:=by
 have h1:β' o=.sp blk x:=by
  rcases hl with h|h|h
  ·rw[h];exact hb
  ·rw[hH.dead o h]at hy;cases hy
  ·rw[hb]at h;cases h
 obtain⟨-,y',h2,h3⟩:=hH.sp o blk x h1;rw[hy]at h2;cases h2;exact⟨h1,h3⟩
def qPn{nt n:Nat}(hng:nt<=gh){x y:PC}{ca cx:Code}(hA:CS P N C E B nt n x ca)(hX:CS P N C E B nt n y cx){ps:Array Tmp}(hps:∀p∈ps.toList,p<nt)(hdx:qcj nt true x=true)(hdy:qcj nt true y=true){base:Nat}{s:St}
  (hI:Inv P N C E B base nt s a w S β) {w2:CU} (hext:Ext B w S w2 S) {β2:Pl} {l:Nat} {rec:Loop} {bo:BO} (hβ2:β2=upd (upd β (s.H.length+1) bo) s.H.length (.sp l (.loop rec)))
  (h1:rec.tmps=a.tmps) (h2:rec.params=ps) (h3:rec.assign=ca) (h4:rec.body=cx) (live:CF) :
  YOK P C N E.G (qdy (λb s=>qag E (lpN n) b x s) (λb s=>qag E (lpN n) b y s) (Fr.only live s.fr) s.H.length ps.toList E.yld) B w2 S β2 (s.H.length+2):=by
 have hb2:β2 s.H.length=.sp l (.loop rec):=by rw[hβ2,qa5]
 have hlow:∀o,o<s.H.length->β2 o=β o:=λo ho=>by rw[hβ2,qaC (by omega),qaC (by omega)]
 obtain⟨yb,hyb,hyok⟩:=hI.yok;have hbs:=hI.base;have lb02:Lb s.H.length β β2:=λo ho=>⟨.inl (hlow o ho),λh=>by rw[hlow o ho];exact h⟩;intro o' args H r H' h;unfold qdy at h;split at h
 ·rename_i ho;subst ho;split at h
  ·rename_i hal;split at h
   ·rename_i hobj;refine⟨hobj,?_⟩;intro w3 S3 β3 us blk r0 e3 l3 hl3 hB3 hS3 hG3 hH3 hb3 hlen hrel F nf hF hd ha;obtain⟨hbo,hsp⟩:=qqv (y:=.lp 0 none) hb2 (l3 _ (by omega)).1 hH3 hobj;rw[hb3]at hbo;cases hbo;have hsp:w3.heap[l]? = some (.loop { rec with state:=.ready,pending:=none }):=hsp;refine⟨_,hsp,?_,?_⟩
    ·show us.length=rec.params.size;rw[h2,<-hlen,hal,Array.length_toList]
    have hFR:F.inRound l=FR (some l):=by obtain⟨fn,dp,al,rd⟩:=F;simp only at hF hd ha;have:fn=λ_=>True:=funext λf=>propext ⟨λ_=>trivial,λ_=>hF f⟩;subst this hd ha;rfl
    refine roundIn_of_wpIn (hF _) ?_;rw[hFR];split at h
    ·rename_i s1 hev1;split at h
     ·rename_i hobj1;split at h
      ·rename_i e s2 hev2;split at h
       ·rename_i hobj2;simp only[zzb]at h;have lb23:Lb s.H.length β β3:=lb02.trans (l3.mono (by omega));have e03:Ext B w S w3 S3:=hext.trans e3;have lat3:Later β β3:=qtc lb23 (λo ho=>hI.hok.out o ho);subst h2 h3 h4;have hlt:s.H.length<H.length:=by omega
        have hargs:args.length=us.length:=hlen;have hfok:FOK C w3 S3 β3 (qdR (Fr.only live s.fr) rec.params.toList args) { tmps:=(rec.params.zip us.toArray).foldl (λtmps (t,a)=>tmps.setIfInBounds t a) rec.tmps,defers:=[] }:=by
         intro t;show Ac C w3 S3 β3 _ (Array.getD (Array.foldl _ _ _) t undef);rw[qDh];refine qx0 _ args us _ rec.tmps hargs (λp hp=>?_) (λt=>?_) hrel t
         ·rw[h1,hI.size];exact hps p hp
         ·rw[h1];rcases qGr live t s.fr with h|h
          ·rw[h];exact (hI.fok t).ext e03 lat3
          ·rw[h];exact .u _
        refine hA H.length (some l) nf hdx _ s1 .norm _ w3 S3 β3 _ hev1 ⟨hS3,hG3,hB3,hH3,hfok,?_,?_,⟨yb,by omega,hyok.later e03 (lb23.mono (by omega))⟩,zzt _⟩ ?_
        ·show Array.size (Array.foldl _ _ _)=nt;rw[qDh,qCg,h1];exact hI.size
        ·refine⟨[],List.nodup_nil,λt ht=>absurd ht (zzC),λt ht hne=>absurd ?_ hne,rfl,λj hj=>absurd hj (zzm _)⟩;rw[qyp _ _ _ (λhm=>Nat.not_lt.2 (zzL hng ht) (hps t hm))];exact qsz live ht s.fr
        intro a1 w4 S4 β4 hI4 e4 l4;show ∃w5,_;obtain⟨hb4,hsp4⟩:=qqv (y:=.lp 0 none) hb3 (l4 _ hlt).1 hI4.hok hobj1;have hsp4:w4.heap[l]? = some (.loop { rec with state:=.ready,pending:=none }):=hsp4;have hl4:l<w4.heap.size:=(Array.getElem?_eq_some_iff.1 hsp4).1;refine⟨_,run_beginRound hsp4 rfl,?_⟩;obtain⟨e5,h5⟩:=qqu hI4.hok hI4.swf hb4 (.loop { rec with state:=.busy,pending:=none }) (y':=.lp 2 none) (World.putObj_heap_same hl4);refine hX H.length (some l) nf hdy _ s2 e a1 _ S4 β4 _ hev2 ⟨hI4.swf.ext e5,hI4.gok.ext e5,by rw[World.putObj_size];exact hI4.hB,h5,hI4.fok.ext e5 (Later.refl _),hI4.size,hI4.defers.ext e5 (Later.refl _),⟨yb,by omega,hyok.later (e03.trans (e4.trans e5)) ((lb23.mono (by omega)).trans (l4.mono (by omega)))⟩,by rw[qa2];exact hI4.base⟩ ?_
        intro a2 w6 S6 β6 hI6 e6 l6;obtain⟨hb6,hsp6⟩:=qqv (y:=.lp 2 none) hb4 (l6 _ hlt).1 hI6.hok hobj2;have hsp6:w6.heap[l]? = some (.loop { rec with state:=.busy,pending:=none }):=hsp6;have hl6:l<w6.heap.size:=(Array.getElem?_eq_some_iff.1 hsp6).1;have key:∀jump:CK Code,jump=(if isN e then none else some (exC e))->∃v w',(Instr.endRound l jump).run P w6=.ok v w'/\∃u S' β',Ending.returned v=Ending.returned u/\Ext B w3 S3 w' S'/\Swf w' S'/\HOK C B w' S' β' H'/\Later β3 β'/\Ac C w' S' β' r u/\H.length<=H'.length/\Kp H.length H.length β3 β':=by
         intro jump hj;refine⟨_,_,run_endRound jump hsp6,?_⟩;have hy:SpOK (w6.putObj l (.loop { rec with state:=if jump.isNone then .ready else .done,pending:=jump })) S6 l (.loop rec) (if isN e then .lp 0 none else .lp 1 (some e)):=by
          cases hn:isN e with
          |true=>rw[hn]at hj;subst hj;exact World.putObj_heap_same hl6
          |false=>rw[hn]at hj;subst hj;exact World.putObj_heap_same hl6
         obtain⟨e7,h7⟩:=qqu hI6.hok hI6.swf hb6 (.loop { rec with state:=if jump.isNone then .ready else .done,pending:=jump }) hy;have hbool:Ac C (w6.putObj l (.loop { rec with state:=if jump.isNone then .ready else .done,pending:=jump })) S6 β6 (.d (.b (isN e))) (.bool jump.isNone):=by
          have:jump.isNone=isN e:=by rw[hj];cases isN e<;>rfl
          rw[this];exact .d _ _ (.b _)
         obtain⟨β7,k1,k2,k3,k4⟩:=qyc h7 hbool (base:=H.length) (by rw[qa2];exact hI6.base);have lb37:Lb H.length β3 β7:=l4.trans (l6.trans k3);rw[h]at k1 k2 k4;exact⟨_,S6,β7,rfl,e4.trans (e5.trans (e6.trans e7)),hI6.swf.ext e7,k1,qtc lb37 (λo ho=>hH3.out o ho),k2,k4,λo ho _ hp=>(lb37 o ho).2 hp⟩
        cases e with
        |norm=>exact key none rfl
        |exit id=>exact key (some (.exit id)) rfl
        |ret=>exact key (some .ret) rfl
       ·cases h
      ·cases h
     ·cases h
    ·cases h
   ·cases h
  ·cases h
 ·obtain⟨g1,g2⟩:=hyok o' args H r H' h;refine⟨g1,λw3 S3 β3 us blk r0 e3 l3 hl3=>g2 w3 S3 β3 us blk r0 (hext.trans e3) ((lb02.mono (by omega)).trans (l3.mono (by omega))) (by omega)⟩
def qPo(hO:OrOK P C N E)(hN:NOK P N C E.G){nt n:Nat}(hng:nt<=gh){x y:PC}{ca cx:Code}(hA:CS P N C E B nt n x ca)(hX:CS P N C E B nt n y cx){f:Operand}{rf:Ab}(hr:qbU P N none f=some rf){ps:Array Tmp}(hps:∀p∈ps.toList,p<nt){g:Nat}(hg:gh<=g)
  {live:CF} (hdx:qcj nt true x=true) (hdy:qcj nt true y=true) {base:Nat} {s s':St} {ex:Ex} {nf:Nat} {Q:Exit->Act->CU->Prop} (he:qag E (lpN n) base (.rng rf g ps.toList live x y) s=some (ex,s')) (hI:Inv P N C E B base nt s a w S β)
  (hQ:∀a' w' S' β',Inv P N C E B base nt s' a' w' S' β'->Ext B w S w' S'->Lb base β β'->Q (qoW ex) a' w'):(Code.rangeFunc f ps ca cx).wpIn (FR none) nf P Q a w:=by
 simp only[qag]at he;split at he;case h_2=>cases he
 rename_i m caps h1 h2;split at he;case h_2=>cases he
 rename_i r H' hit;have hrel:=qjB hN hI.gok hI.fok hr;rw[h1]at hrel;obtain⟨us,q1,q2,q3⟩:=qsq hrel;refine wpIn_rangeFunc λfn _=>?_;have hpend:∀o,s.H.length<=o->β o=.pend:=λo ho=>hI.hok.out o ho;have hbs:=hI.base;obtain⟨yb,hyb,hyok⟩:=hI.yok;have hg2:=qmZ hI.hok 2;have ho1:β (s.H.length+1)=.pend:=hpend _ (by omega);obtain⟨k1,k2⟩:=qsG hg2 hI.swf hI.hB (id:=s.H.length+1) ho1 (by simp) (ob:=.deferred (some [])) (x:=.defer) (y:=.df) (World.alloc_heap_new w _);have e1:Ext B w S (w.alloc (.deferred (some []))) S:=qAK hI.swf hI.hB _;have hS1:Swf (w.alloc (.deferred (some []))) S:=hI.swf.ext e1;have hB1:B<=(w.alloc (.deferred (some []))).heap.size:=zzL hI.hB e1.below.size;have hsz1:(w.alloc (.deferred (some []))).heap.size=w.heap.size+1:=World.size_alloc ..;have ho0:upd β (s.H.length+1) (.sp w.heap.size .defer) s.H.length=.pend:=by rw[qaC (by omega)];exact hpend _ (zzt _)
 obtain⟨k3,k4⟩:=qsG k1 hS1 hB1 (id:=s.H.length) ho0 (by simp[qa2]) (ob:=.loop { state:=.ready,pending:=none,fn,tmps:=a.tmps,params:=ps,assign:=ca,body:=cx,defers:=w.heap.size })
  (x:=.loop { state:=.ready,pending:=none,fn,tmps:=a.tmps,params:=ps,assign:=ca,body:=cx,defers:=w.heap.size }) (y:=.lp 0 none) (World.alloc_heap_new _ _)
 have e2:Ext B (w.alloc (.deferred (some []))) S ((w.alloc (.deferred (some []))).alloc (.loop { state:=.ready,pending:=none,fn,tmps:=a.tmps,params:=ps,assign:=ca,body:=cx,defers:=w.heap.size })) S:=qAK hS1 hB1 _;rw[qKL,hsz1]at k3;rw[hsz1]at k4;generalize hrec:({ state:=.ready,pending:=none,fn,tmps:=a.tmps,params:=ps,assign:=ca,body:=cx,defers:=w.heap.size }:Loop)=rec at *
 generalize hw2:(w.alloc (.deferred (some []))).alloc (.loop rec)=w2 at *
 generalize hβ2:upd (upd β (s.H.length+1) (.sp w.heap.size .defer)) s.H.length (.sp (w.heap.size+1) (.loop rec))=β2 at *
 have e02:Ext B w S w2 S:=e1.trans e2;have hb2:β2 s.H.length=.sp (w.heap.size+1) (.loop rec):=by rw[<-hβ2,qa5]
 have hd2:β2 (s.H.length+1)=.sp w.heap.size .defer:=by rw[<-hβ2,qaC (by omega),qa5]
 have lat2:Later β β2:=(k2).trans k4;have hyk:=qPn hng hA hX hps hdx hdy hI e02 hβ2.symm (by rw[<-hrec]) (by rw[<-hrec]) (by rw[<-hrec]) (by rw[<-hrec]) live;have hlen2:(s.H++[some (Obj.lp 0 none),some Obj.df]).length=s.H.length+2:=by simp
 have hcall:=hO.it _ _ _ _ _ _ hit B w2 S β2 (.func (.yield (w.heap.size+1)) #[] #[]::us) (zzL hI.hB e02.below.size) (hI.swf.ext e02) (hI.gok.ext e02) k3 (by simp[q2]) (λj hj hj'=>by
  cases j with
  |zero=>
   have hrh:RelH β2 s.H.length (.func (.yield (w.heap.size+1)) #[] #[]):=by unfold RelH;rw[hb2]
   exact .h _ _ rfl hrh
  |succ j=>exact (q3 j (by simpa using hj) (by simpa using hj')).ext e02 lat2) (by rw[hlen2];exact hyk)
 refine⟨w.heap.size+1,[{ target:=.collected w.heap.size,args := #[] }],w2,{ target:=.fn (.func (C.μ m)) us.toArray,args := #[.func (.yield (w.heap.size+1)) #[] #[]] },w2,C.μ m,(Value.func (.yield (w.heap.size+1)) #[] #[]::us).toArray,w2,?_,?_,λ_ _=>trivial,?_,(λh=>by simp[FR,Fence.wide]at h),qrG.2 (hcall.mono ?_)⟩
 ·rw[<-hw2,<-hrec];exact run_enterLoop_outer fn a.tmps ps ca cx
 ·simp only[resolve,q1,Deferred.ofValue,Sem.run_pure,List.map_toArray,zzu,List.map_nil,Array.empty_append];rfl
 ·obtain⟨fn',z1,z2,z3⟩:=hO.fni _ _ _ _ _ hit;simp only[invoke];have harr : #[Value.func (.yield (w.heap.size+1)) #[] #[]]++us.toArray=(Value.func (.yield (w.heap.size+1)) #[] #[]::us).toArray:=by apply Array.ext';simp
  rw[harr];exact qqm z1 z2 z3 _
 rintro e w3 ⟨u,S3,β3,rfl,e3,hS3,hH3,lat3,-,hl3,kp3⟩;rw[hlen2]at hl3 kp3;have lb03:Lb base β β3:=λo ho=>by
  have h02:β2 o=β o:=by rw[<-hβ2,qaC (by omega),qaC (by omega)]
  refine⟨?_,λhp=>kp3 o (by omega) (by omega) (by rw[h02];exact hp)⟩;rw[<-h02];exact lat3 o
 have fin:∀(st:Nat) (j:CK Ex),(H'.obj s.H.length=some (.lp st j))->qnN st≠.busy->∀(s1:St),s1=⟨s.fr.set g (.g (.h (s.H.length+1))),H'.put s.H.length none⟩->∃w4,(Instr.endLoop (w.heap.size+1)).run P w3=.ok (j.map exC) w4/\∃S4 β4,Ext B w S w4 S4/\Lb base β β4/\
   Inv P N C E B base nt s1 { a with defers:=[{ target:=.collected w.heap.size,args := #[] }]++a.defers } w4 S4 β4:=by
  intro st j hob hst s1 hs1;obtain⟨hb3,hsp3⟩:=qqv hb2 (lat3 _) hH3 hob;have hsp3:w3.heap[w.heap.size+1]? = some (.loop { rec with state:=qnN st,pending:=j.map exC }):=hsp3;refine⟨_,run_endLoop hsp3 hst,S3,upd β3 s.H.length .dead,?_⟩;obtain⟨e4,h4,l4⟩:=qyz hH3 hS3 hb3 (.loop { rec with state:=.exhausted,pending:=j.map exC });have e04:=e02.trans (e3.trans e4);have lat04:Later β (upd β3 s.H.length .dead):=lat2.trans (lat3.trans l4);have lb04:Lb base β (upd β3 s.H.length .dead):=lb03.trans (λo ho=>by rw[qaC (by omega)];exact⟨.inl rfl,λh=>h⟩);refine⟨e04,lb04,?_⟩;subst hs1;refine⟨hS3.ext e4,hI.gok.ext e04,zzL hI.hB e04.below.size,h4,?_,hI.size,?_,⟨yb,hyb,hyok.later e04 (lb04.mono hyb)⟩,by simp only[qa2];omega⟩
  ·intro t;show Ac C _ S3 _ ((s.fr.set g _).get t) _;rw[qdu];split
   ·exact .g _ _
   ·exact (hI.fok t).ext e04 lat04
  ·refine (hI.defers.ext e04 lat04).push hg h2 ⟨w.heap.size,rfl,?_⟩;rcases l4 (s.H.length+1)with h|h|h
   ·rcases lat3 (s.H.length+1)with h'|h'|h'
    ·rw[h,h',hd2];exact .inl rfl
    ·rw[h,h'];exact .inr rfl
    ·rw[hd2]at h';cases h'
   ·exact .inr h
   ·rcases lat3 (s.H.length+1)with h'|h'|h'
    ·rw[h',hd2]at h;cases h
    ·rw[h']at h;cases h
    ·rw[hd2]at h';cases h'
 split at he
 ·rename_i hob;simp only[zzb,zzc]at he;obtain⟨rfl,rfl⟩:=he;obtain⟨w4,r1,S4,β4,r2,r3,r4⟩:=fin 0 none hob (by simp[qnN]) _ rfl;exact⟨none,w4,r1,hQ _ w4 S4 β4 r4 r2 r3⟩
 ·rename_i e' hob;simp only[zzb,zzc]at he;obtain⟨rfl,rfl⟩:=he;obtain⟨w4,r1,S4,β4,r2,r3,r4⟩:=fin 1 (some e') hob (by simp[qnN]) _ rfl;refine⟨some (exC e'),w4,r1,?_⟩;cases e' with
  |norm=>exact wpIn_skip (hQ _ w4 S4 β4 r4 r2 r3)
  |exit id=>exact wpIn_exit (hQ _ w4 S4 β4 r4 r2 r3)
  |ret=>exact wpIn_ret (hQ _ w4 S4 β4 r4 r2 r3)
 ·cases he
end
section
variable {P:CV}{N:Names}{C:Cx}{w:CU}{S:qad}{β:Pl}{B:Nat}{H:CW}{a:Act}{E:Env}
def qoS{ops:Array Oper}{o:Oper}(h:qb7 o.op=true):(qau P N ops o).g=none/\((qau P N ops o).op=.bad/\(qau P N ops o).dst=o.dst\/(∃x y,(qau P N ops o).op=.dfr x y)/\o.dst=none):=by
 cases hop:o.op<;>(rw[hop]at h;try (cases h;done))
 rename_i c;unfold qau;split
 ·rename_i x g hx hg;rw[if_pos (by rw[hop];rfl)];split
  ·rename_i hc;simp only[zzf,Option.isNone_iff_eq_none]at hc;refine⟨rfl,.inr ⟨?_,hc.2⟩⟩;simp only[qaS,hop]at hx;split at hx
   ·split at hx
    ·cases hx;exact⟨_,_,rfl⟩
    ·cases hx
   ·cases hx
  ·exact⟨rfl,.inl ⟨rfl,rfl⟩⟩
 ·exact⟨rfl,.inl ⟨rfl,rfl⟩⟩
def qoV{E:Env}:∀(L:CL Ap) (id:Nat) (s s':St),qaF E L id s=some s'->∀o∈L,o.g=none->o.op≠.bad
 |[],_,_,_,_,_,hm,_=>absurd hm (zzC)
 |o::L,id,s,s',h,o',hm,hg=>by
  rcases List.mem_cons.1 hm with rfl|hm
  ·intro hb;simp only[qaF,hg,hb,qaa]at h;cases h
  ·simp only[qaF]at h;have go:∀r,(match qaa E (rd E s.fr) s.H id o.op with
     |some (v,H)=>qaF E L (if o.op.adds then id+1 else id) ⟨match o.dst with|some t=>s.fr.set t v|none=>s.fr,H⟩
     |none=>none)=some r->o'.op≠.bad:=by
    intro r hr;split at hr
    ·exact qoV L _ _ _ hr o' hm hg
    ·cases hr
   split at h
   ·exact go _ h
   ·split at h
    ·split at h
     ·exact go _ h
     ·exact qoV L _ _ _ h o' hm hg
    ·exact qoV L _ _ _ h o' hm hg
    ·cases h
def qxH{E:Env}:∀(L:CL Ap) (bf:CF) (acc:CL (CF×CF)) (id:Nat) (s s':St),qbW E L bf acc id s=some s'->∀o∈L,o.g=none->o.op≠.bad/\∀x y,o.op≠.dfr x y
 |[],_,_,_,_,_,_,_,hm,_=>absurd hm (zzC)
 |o::L,bf,acc,id,s,s',h,o',hm,hg=>by
  simp only[qbW]at h;split at h
  ·rename_i s1 h1;split at h
   ·rcases List.mem_cons.1 hm with rfl|hm
    ·refine⟨λhb=>?_,λx y hb=>?_⟩ <;>
     ·simp[Bi,hg,hb,qaq,IOp.okD,IOp.Bg]at h1
    ·exact qxH L _ _ _ _ _ h o' hm hg
   ·cases h
  ·cases h
def qFv{o:Oper}{x y:Ab}(h:qaS P N o=some (.dfr x y)):qb7 o.op=true:=by
 cases hop:o.op<;>simp only[qaS,hop]at h<;>first
  |rfl
  | (exfalso;repeat' first
    | (cases h;done)
    |contradiction
    | (split at h)
    | (rw[zza]at h;obtain⟨_,_,h⟩:=h)
    | (simp only[qr3,qr2]at h))
def qFu{ops:Array Oper}{o:Oper}(hd:qb7 o.op=false)(x y:Ab):(qau P N ops o).op≠.dfr x y:=by
 intro h;unfold qau at h;split at h
 ·rename_i z g hz hg;rw[if_neg (by simp[hd])]at h;simp only at h;subst h;rw[qFv hz]at hd;cases hd
 ·cases h
def qr7{nt:Nat}{inr:CO}{ops:Array Oper}(hd:(ops.toList.map (qau P N ops)).all (qi3 nt inr)=true):∀o∈ops.toList,∀d,o.dst=some d->d<nt:=by
 intro o ho d hod;have h1:qi3 nt inr (qau P N ops o)=true:=List.all_eq_true.1 hd _ (List.mem_map_of_mem ho);cases hdf:qb7 o.op with
 |true=>
  rcases (qoS (P:=P) (N:=N) (ops:=ops) hdf).2 with ⟨h2,h3⟩|⟨-,h3⟩
  ·unfold qi3 at h1;rw[h2,h3,hod]at h1;simpa using h1
  ·rw[h3]at hod;cases hod
 |false=>
  have h3:=qr4 (P:=P) (N:=N) o ops hdf;unfold qi3 at h1;split at h1
  ·rename_i x y hx;exact absurd hx (qFu hdf x y)
  ·rw[h3,hod]at h1;simpa using h1
def qkw(hO:OrOK P C N E)(hN:NOK P N C E.G){nt n:Nat}(hng:nt<=gh):∀(pc:PC) (c:Code),qaE pc=qaB P N c->CS P N C E B nt n pc c:=by
 intro pc;induction pc with
 |skip=>
  intro c hb base ro nf _ s s' ex a w S β Q he hI hQ;cases c with
  |skip=>simp only[qag,zzb,zzc]at he;obtain⟨rfl,rfl⟩:=he;exact wpIn_skip (hQ a w S β hI (Ext.refl _ _ _) (Lb.refl _ _))
  |region id ops d=>simp only[qaB,qaE]at hb; (repeat' split at hb)<;>cases hb
  |rangeFunc f ps x y=>simp only[qaB,qaE]at hb;split at hb<;>cases hb
  |cond x y z=>simp only[qaB,qaE]at hb;split at hb<;>cases hb
  |_=>simp[qaE,qaB]at hb
 |reg ops kill=>
  intro c hb base ro nf hds s s' ex a w S β Q he hI hQ;cases c with
  |region id ops' d=>
   simp only[qaB,qaE]at hb;split at hb
   ·rename_i hd;split at hb
    ·rename_i hok;split at hb
     ·rename_i hlit;simp only[PC.reg.injEq,and_true]at hb;subst hb;subst hd;simp only[qag]at he;split at he
      ·rename_i s1 hs1;simp only[zzb,zzc]at he;obtain⟨rfl,rfl⟩:=he;unfold qcn at hs1;split at hs1
       ·rename_i s2 hs2;cases hs1;have hd2:=qr7 (P:=P) (N:=N) (ops:=ops') hds;have hnof:∀o∈ops'.toList,qb7 o.op=false:=by
         intro o ho;cases hdf:qb7 o.op with
         |false=>rfl
         |true=>
          exfalso;have hm:qau P N ops' o∈ops'.toList.map (qau P N ops'):=List.mem_map_of_mem ho;obtain⟨g3,g4⟩:=qJi hlit _ hm;obtain⟨g1,g2⟩:=qoS (P:=P) (N:=N) (ops:=ops') hdf;rcases g2 with ⟨g2,-⟩|⟨⟨x,y,g2⟩,-⟩
          ·exact g3 g2
          ·exact g4 x y g2
        refine qPg (base:=base) (nt:=nt) (B:=B) (S:=S) (β:=β) hO hN hng hnof hd2 hok hlit hs2 hI ?_;intro a' w' S' β' hI' e1 e2;refine hQ a' w' S' β' ⟨hI'.swf,hI'.gok,hI'.hB,hI'.hok,?_,hI'.size,hI'.defers.frame (λt ht=>qsw kill ht s2.fr),hI'.yok,hI'.base⟩ e1 e2;intro t;rcases qsv kill t s2.fr with h|h
        ·rw[h];exact hI'.fok t
        ·rw[h];exact .u _
       ·cases hs1
      ·cases he
     ·cases hb
    ·cases hb
   ·rename_i hd;simp only[PC.reg.injEq,and_true]at hb;subst hb;have hd':d=false:=by simpa using hd
    subst hd';simp only[qag]at he;split at he
    ·rename_i s1 hs1;simp only[zzb,zzc]at he;obtain⟨rfl,rfl⟩:=he;unfold qcn at hs1;split at hs1
     ·rename_i s2 hs2;cases hs1;refine wpIn_region ?_;rw[List.range_eq_range'];have hlen:s.H.length<=(s.H++List.replicate (qar (ops'.toList.map (qau P N ops'))) none).length:=by simp
      have hd2:=qr7 (P:=P) (N:=N) (ops:=ops') hds;have hro:ro=none\/∀o∈ops'.toList,qb7 o.op=false:=by
       cases ro with
       |none=>exact .inl rfl
       |some l=>
        refine .inr λo ho=>?_;cases hdf:qb7 o.op with
        |false=>rfl
        |true=>
         exfalso;have hm:qau P N ops' o∈ops'.toList.map (qau P N ops'):=List.mem_map_of_mem ho;obtain⟨g1,g2⟩:=qoS (P:=P) (N:=N) (ops:=ops') hdf;rcases g2 with ⟨g2,-⟩|⟨⟨x,y,g2⟩,-⟩
         ·exact qoV _ _ _ _ hs2 _ hm g1 g2
         ·have:=List.all_eq_true.1 hds _ hm;unfold qi3 at this;rw[g2]at this;cases this
      obtain⟨yb,hyb,hyok⟩:=hI.yok;refine qOn (base:=base) (nt:=nt) hO hN hng hro hd2 ops'.size 0 s.H.length (s.H.length+qar (ops'.toList.map (qau P N ops'))) ⟨s.fr,s.H++List.replicate (qar (ops'.toList.map (qau P N ops'))) none⟩ s2 a w S β (by omega) (by simpa using hs2) ⟨hI.swf,hI.gok,hI.hB,qmZ hI.hok _,hI.fok,hI.size,hI.defers,⟨yb,hyb,hyok⟩,zzL hI.base hlen⟩ ?_ ?_ ?_ hI.base ?_
      ·intro j hj _;exact hI.hok.out j hj
      ·simp
      ·simp
      ·intro a' w' S' β' hI' e1 e2;refine hQ a' w' S' β' ⟨hI'.swf,hI'.gok,hI'.hB,hI'.hok,?_,hI'.size,hI'.defers.frame (λt ht=>qsw kill ht s2.fr),hI'.yok,hI'.base⟩ e1 e2;intro t;rcases qsv kill t s2.fr with h|h
       ·rw[h];exact hI'.fok t
       ·rw[h];exact .u _
     ·cases hs1
    ·cases he
  |cond x y z=>simp only[qaB,qaE]at hb;split at hb<;>cases hb
  |rangeFunc f ps x y=>simp only[qaB,qaE]at hb;split at hb<;>cases hb
  |_=>simp[qaE,qaB]at hb
 |Ba ops bf kill=>
  intro c hb base ro nf hds s s' ex a w S β Q he hI hQ;cases c with
  |region id ops' d=>
   simp only[qaB,qaE]at hb;split at hb
   ·rename_i hd;split at hb
    ·rename_i hok;split at hb
     ·cases hb
     simp only[PC.Ba.injEq,and_true]at hb;obtain⟨rfl,rfl⟩:=hb;subst hd;simp only[qag]at he;split at he
     ·rename_i s1 hs1;simp only[zzb,zzc]at he;obtain⟨rfl,rfl⟩:=he;unfold qdq at hs1;split at hs1
      ·rename_i s2 hs2;cases hs1;have hd2:=qr7 (P:=P) (N:=N) (ops:=ops') hds;have hnof:∀o∈ops'.toList,qb7 o.op=false:=by
        intro o ho;cases hdf:qb7 o.op with
        |false=>rfl
        |true=>
         exfalso;have hm:qau P N ops' o∈ops'.toList.map (qau P N ops'):=List.mem_map_of_mem ho;obtain⟨g1,g2⟩:=qoS (P:=P) (N:=N) (ops:=ops') hdf;obtain⟨g3,g4⟩:=qxH _ _ _ _ _ _ hs2 _ hm g1;rcases g2 with ⟨g2,-⟩|⟨⟨x,y,g2⟩,-⟩
         ·exact g3 g2
         ·exact g4 x y g2
       refine qPf (base:=base) (nt:=nt) (B:=B) (S:=S) (β:=β) hO hN hng hnof hd2 hok hs2 hI ?_
       ·intro a' w' S' β' hI' e1 e2;refine hQ a' w' S' β' ⟨hI'.swf,hI'.gok,hI'.hB,hI'.hok,?_,hI'.size,hI'.defers.frame (λt ht=>qsw kill ht s2.fr),hI'.yok,hI'.base⟩ e1 e2;intro t;rcases qsv kill t s2.fr with h|h
        ·rw[h];exact hI'.fok t
        ·rw[h];exact .u _
      ·cases hs1
     ·cases he
    ·cases hb
   ·cases hb
  |cond x y z=>simp only[qaB,qaE]at hb;split at hb<;>cases hb
  |rangeFunc f ps x y=>simp only[qaB,qaE]at hb;split at hb<;>cases hb
  |_=>simp[qaE,qaB]at hb
 |seq x y ihx ihy=>
  intro c hb base ro nf hds s s' ex a w S β Q he hI hQ;simp only[qcj,zzf]at hds;cases c with
  |seq c1 c2=>
   simp only[qaB,qaE,PC.seq.injEq]at hb;simp only[qag]at he;refine wpIn_seq ?_;cases hx:qag E (lpN n) base x s with
   |none=>rw[hx]at he;cases he
   |some v=>
    obtain⟨e1,s1⟩:=v;refine ihx c1 hb.1 base ro nf hds.1 s s1 e1 a w S β _ hx hI ?_;intro a' w' S' β' hI' g1 g2;rw[hx]at he;cases e1 with
    |norm=>exact ihy c2 hb.2 base ro nf hds.2 s1 s' ex a' w' S' β' Q he hI' λa'' w'' S'' β'' hI'' g3 g4=>hQ a'' w'' S'' β'' hI'' (g1.trans g3) (g2.trans g4)
    |exit id=>simp only[zzb,zzc]at he;obtain⟨rfl,rfl⟩:=he;exact hQ a' w' S' β' hI' g1 g2
    |ret=>simp only[zzb,zzc]at he;obtain⟨rfl,rfl⟩:=he;exact hQ a' w' S' β' hI' g1 g2
  |region id ops d=>simp only[qaB,qaE]at hb; (repeat' split at hb)<;>cases hb
  |rangeFunc f ps x y=>simp only[qaB,qaE]at hb;split at hb<;>cases hb
  |cond x y z=>simp only[qaB,qaE]at hb;split at hb<;>cases hb
  |_=>simp[qaE,qaB]at hb
 |cond c x y ihx ihy=>
  intro cc hb base ro nf hds s s' ex a w S β Q he hI hQ;simp only[qcj,zzf]at hds;cases cc with
  |cond c0 c1 c2=>
   simp only[qaB,qaE]at hb;split at hb
   ·rename_i r hr;simp only[PC.cond.injEq]at hb;obtain⟨rfl,hb1,hb2⟩:=hb;have hrel:=qjB hN hI.gok hI.fok hr;simp only[qag]at he;split at he
    ·rename_i hc;rw[hc]at hrel;exact wpIn_cond_true (qhU hrel) (ihx c1 hb1 base ro nf hds.1 s s' ex a w S β Q he hI hQ)
    ·rename_i hc;rw[hc]at hrel;exact wpIn_cond_false (qhU hrel) (ihy c2 hb2 base ro nf hds.2 s s' ex a w S β Q he hI hQ)
    ·cases he
   ·cases hb
  |region id ops d=>simp only[qaB,qaE]at hb; (repeat' split at hb)<;>cases hb
  |rangeFunc f ps x y=>simp only[qaB,qaE]at hb;split at hb<;>cases hb
  |_=>simp[qaE,qaB]at hb
 |block id x ih=>
  intro c hb base ro nf hds s s' ex a w S β Q he hI hQ;simp only[qcj]at hds;cases c with
  |block id' c1=>
   simp only[qaB,qaE,PC.block.injEq]at hb;obtain⟨rfl,hb⟩:=hb;simp only[qag]at he;refine wpIn_block ?_;cases hx:qag E (lpN n) base x s with
   |none=>rw[hx]at he;cases he
   |some v=>
    obtain⟨e1,s1⟩:=v;rw[hx]at he;refine ih c1 hb base ro nf hds s s1 e1 a w S β _ hx hI ?_;intro a' w' S' β' hI' g1 g2;cases e1 with
    |norm=>simp only[zzb,zzc]at he;obtain⟨rfl,rfl⟩:=he;exact hQ a' w' S' β' hI' g1 g2
    |exit j=>
     simp only at he;split at he
     ·rename_i hj;simp only[zzb,zzc]at he;obtain⟨rfl,rfl⟩:=he;simp only[beq_iff_eq]at hj;subst hj;simp only[qoW,Exit.inBlock,if_true];exact hQ a' w' S' β' hI' g1 g2
     ·rename_i hj;simp only[zzb,zzc]at he;obtain⟨rfl,rfl⟩:=he;simp only[beq_iff_eq]at hj;simp only[qoW,Exit.inBlock,hj,if_false];exact hQ a' w' S' β' hI' g1 g2
    |ret=>simp only[zzb,zzc]at he;obtain⟨rfl,rfl⟩:=he;exact hQ a' w' S' β' hI' g1 g2
  |region id ops d=>simp only[qaB,qaE]at hb; (repeat' split at hb)<;>cases hb
  |rangeFunc f ps x y=>simp only[qaB,qaE]at hb;split at hb<;>cases hb
  |cond x y z=>simp only[qaB,qaE]at hb;split at hb<;>cases hb
  |_=>simp[qaE,qaB]at hb
 |loop live x ih=>
  intro c hb base ro nf hds s s' ex a w S β Q he hI hQ;simp only[qcj]at hds;cases c with
  |loop c1=>
   simp only[qaB,qaE,PC.loop.injEq,true_and]at hb;simp only[qag]at he;refine wpIn_loop_rounds n ?_;have key:∀(m:Nat) (s:St) (a:Act) (w1:CU) (S1:qad) (β1:Pl),lpN m (λs=>qag E (lpN n) base x (gc live base s)) s=some (ex,s')->Inv P N C E B base nt s a w1 S1 β1->Ext B w S w1 S1->Lb base β β1->Code.roundsIn (FR ro) nf P c1 Q m a w1:=by
    intro m;induction m with
    |zero=>intro s a w1 S1 β1 h;cases h
    |succ m ihm=>
     intro s a w1 S1 β1 h hI1 g1 g2;rw[roundsIn_succ];rw[lpN]at h;obtain⟨β2,hI2,g3⟩:=qGk hI1 live;cases hx:qag E (lpN n) base x (gc live base s)with
     |none=>rw[hx]at h;cases h
     |some v=>
      obtain⟨e1,s1⟩:=v;rw[hx]at h;refine ih c1 hb base ro nf hds _ s1 e1 a w1 S1 β2 _ hx hI2 ?_;intro a' w' S' β' hI' g4 g5;cases e1 with
      |norm=>exact ihm s1 a' w' S' β' h hI' (g1.trans g4) ((g2.trans g3).trans g5)
      |exit id=>simp only[zzb,zzc]at h;obtain⟨rfl,rfl⟩:=h;exact hQ a' w' S' β' hI' (g1.trans g4) ((g2.trans g3).trans g5)
      |ret=>simp only[zzb,zzc]at h;obtain⟨rfl,rfl⟩:=h;exact hQ a' w' S' β' hI' (g1.trans g4) ((g2.trans g3).trans g5)
   exact key n s a w S β he hI (Ext.refl _ _ _) (Lb.refl _ _)
  |region id ops d=>simp only[qaB,qaE]at hb; (repeat' split at hb)<;>cases hb
  |rangeFunc f ps x y=>simp only[qaB,qaE]at hb;split at hb<;>cases hb
  |cond x y z=>simp only[qaB,qaE]at hb;split at hb<;>cases hb
  |_=>simp[qaE,qaB]at hb
 |rng rf g ps live x y ihx ihy=>
  intro c hb base ro nf hds s s' ex a w S β Q he hI hQ;simp only[qcj,zzf,Bool.not_eq_true',Nat.ble_eq]at hds;obtain⟨⟨⟨⟨hro,hg⟩,hps⟩,hdx⟩,hdy⟩:=hds;have hro:ro=none:=by
   cases ro with
   |none=>rfl
   |some l=>cases hro
  subst hro;cases c with
  |rangeFunc f ps' ca cx=>
   simp only[qaB,qaE]at hb;split at hb
   ·rename_i r hr;simp only[PC.rng.injEq,true_and]at hb;obtain⟨rfl,rfl,rfl,hb1,hb2⟩:=hb;refine qPo hO hN hng (ihx ca hb1) (ihy cx hb2) hr ?_ hg hdx hdy he hI hQ;intro p hp;have:=List.all_eq_true.1 hps p hp;simpa using this
   ·cases hb
  |region id ops d=>simp only[qaB,qaE]at hb; (repeat' split at hb)<;>cases hb
  |cond x y z=>simp only[qaB,qaE]at hb;split at hb<;>cases hb
  |_=>simp[qaE,qaB]at hb
 |exit id=>
  intro c hb base ro nf _ s s' ex a w S β Q he hI hQ;cases c with
  |exit id'=>simp only[qaB,qaE,PC.exit.injEq]at hb;subst hb;simp only[qag,zzb,zzc]at he;obtain⟨rfl,rfl⟩:=he;exact wpIn_exit (hQ a w S β hI (Ext.refl _ _ _) (Lb.refl _ _))
  |region id ops d=>simp only[qaB,qaE]at hb; (repeat' split at hb)<;>cases hb
  |rangeFunc f ps x y=>simp only[qaB,qaE]at hb;split at hb<;>cases hb
  |cond x y z=>simp only[qaB,qaE]at hb;split at hb<;>cases hb
  |_=>simp[qaE,qaB]at hb
 |ret=>
  intro c hb base ro nf _ s s' ex a w S β Q he hI hQ;cases c with
  |ret=>simp only[qag,zzb,zzc]at he;obtain⟨rfl,rfl⟩:=he;exact wpIn_ret (hQ a w S β hI (Ext.refl _ _ _) (Lb.refl _ _))
  |region id ops d=>simp only[qaB,qaE]at hb; (repeat' split at hb)<;>cases hb
  |rangeFunc f ps x y=>simp only[qaB,qaE]at hb;split at hb<;>cases hb
  |cond x y z=>simp only[qaB,qaE]at hb;split at hb<;>cases hb
  |_=>simp[qaE,qaB]at hb
 |bad=>intro c hb base ro nf _ s s' ex a w S β Q he;cases he
def qjC(tmps:Array CP):ResultVar->Sem CP
 |.tmp t=>pure (tmps.getD t undef)
 |.cell x t=>do loadVar t (<-asAddr (tmps.getD x undef))
def qqk{fr:Fr}(hH:HOK C B w S β H)(hf:FOK C w S β fr a):∀{rs:CL ResultVar} {xs:CL RV} {vs:Cz},qgi P rs=some xs->results fr H xs=some vs->
  ∃us:CL CP,(rs.mapM (qjC a.tmps)).run P w=.ok us w/\vs.length=us.length/\∀j (h:j<vs.length) (h':j<us.length),Ac C w S β vs[j] us[j]
 |[],xs,vs,h,hr=>by cases h;cases hr;exact⟨[],rfl,rfl,λj h=>absurd h (zzm _)⟩
 |r::rs,xs,vs,h,hr=>by
  unfold qgi at h;obtain⟨x,hx,h⟩:=zza.1 h;obtain⟨xs',hxs,h⟩:=zza.1 h;cases h;cases r with
  |tmp t=>
   simp only[qr5,zzb]at hx;subst hx;simp only[Sim.results]at hr;split at hr
   ·rename_i vs' hvs;cases hr;obtain⟨us,h1,h2,h3⟩:=qqk hH hf hxs hvs;refine⟨a.tmps.getD t undef::us,?_,by simp[h2],?_⟩
    ·simp only[List.mapM_cons,qjC,Sem.run_bind,Sem.run_pure,Result.andThen_ok,h1]
    ·intro j hj hj';cases j with
     |zero=>exact hf t
     |succ j=>exact h3 j (by simpa using hj) (by simpa using hj')
   ·cases hr
  |cell y t=>
   simp only[qr5]at hx;obtain⟨k,hk,hx⟩:=zza.1 hx;cases hx;simp only[Sim.results]at hr;split at hr
   ·rename_i v vs' hv hvs;cases hr;obtain⟨us,h1,h2,h3⟩:=qqk hH hf hxs hvs;obtain⟨u,h4,h5⟩:=qz5 hH hk (hf y) hv;have h6:(do loadVar t (<-asAddr (a.tmps.getD y undef)):Sem CP).run P w=.ok u w:=by
     generalize a.tmps.getD y undef=z at *
     cases z with
     |pointer p=>
      cases p with
      |some p=>simpa[Instr.loadAt,Instr.sureAddr,asAddr]using h4
      |none=>simp[Instr.loadAt,Instr.sureAddr]at h4
     |_=>simp[Instr.loadAt,Instr.sureAddr]at h4
    refine⟨u::us,?_,by simp[h2],?_⟩
    ·simp only[Sem.run_bind]at h6;simp only[List.mapM_cons,qjC,Sem.run_bind,h6,Result.andThen_ok,h1,Sem.run_pure]
    ·intro j hj hj';cases j with
     |zero=>exact h5
     |succ j=>exact h3 j (by simpa using hj) (by simpa using hj')
   ·cases hr
def qOq{vs:Cz}{us:CL CP}(hl:vs.length=us.length)(h:∀j (h:j<vs.length) (h':j<us.length),Ac C w S β vs[j] us[j]) :
  Ac C w S β (qbi vs) (if h:us.toArray.size=1 then us.toArray[0]else .tuple us.toArray):=by
 unfold qbi;split
 ·rename_i v;have h1:us.toArray.size=1:=by simpa using hl.symm
  rw[dif_pos h1];have h2:us.length=1:=by simpa using h1
  have:=h 0 (by simp) (by omega);simpa using this
 ·rename_i hn;have h1:¬us.toArray.size=1:=by
   intro h1;have:vs.length=1:=by simpa[hl]using h1
   cases vs with
   |nil=>simp at this
   |cons v r=>
    cases r with
    |nil=>exact hn v rfl
    |cons _ _=>simp at this
  rw[dif_neg h1];exact .t vs us hl h
def qhK(P:CV)(N:Names)(f:FuncId)(F:PF):Prop:=
 ∃fn c,P.funcs[f]? = some fn/\fn.name ≠ "runtime.NumGoroutine" /\fn.body=some c/\qgi P fn.results.toList=some F.results/\qaE F.body=qaB P N c/\qcj (F.Bn+(fn.ntmps-F.Bn)) false F.body=true/\F.Bn+(fn.ntmps-F.Bn)<=gh
def qsB:∀fr:Fr,qao fr=[]->∀t,gh<=t->fr.get t=.u
 |[],_,_,_=>rfl
 | (j,x)::r,h,t,ht=>by
  simp only[qao]at h;split at h
  ·cases h
  ·rename_i hj;simp only[Nat.ble_eq]at hj;simp only[Fr.get];rw[if_neg (by omega)];exact qsB r h t ht
def qyq{v:PV}:∀fr:Fr,qao fr=[v]->∃t0,gh<=t0/\fr.get t0=v/\∀t,gh<=t->t≠t0->fr.get t=.u
 |[],h=>by cases h
 | (j,x)::r,h=>by
  simp only[qao]at h;split at h
  ·rename_i hj;simp only[Nat.ble_eq]at hj;simp only[List.cons.injEq]at h;obtain⟨rfl,h⟩:=h;refine⟨j,hj,by simp[Fr.get],λt ht hne=>?_⟩;simp only[Fr.get];rw[if_neg (λe=>hne e.symm)];exact qsB r h t ht
  ·rename_i hj;simp only[Nat.ble_eq]at hj;obtain⟨t0,h1,h2,h3⟩:=qyq r h;have hg:∀t,gh<=t->Fr.get ((j,x)::r) t=Fr.get r t:=λt ht=>by simp only[Fr.get];rw[if_neg (by omega)]
   exact⟨t0,h1,(hg t0 h1).trans h2,λt ht hne=>(hg t ht).trans (h3 t ht hne)⟩
def DRel.ne{x:PV}{d:Deferred}(h:DRel C w S β x d):x≠.u:=λhx=>by subst hx;exact h
def qxi{fr:Fr}{ds:CL Deferred}(h:DfRel C w S β fr ds)(hg:qao fr=[]):ds=[]:=by
 obtain⟨sl,h1,h2,h3,h4,h5⟩:=h;cases ds with
 |nil=>rfl
 |cons d ds=>have h0:=h5 0 (by simp at h4;omega) (by simp);exact absurd (qsB fr hg _ (h2 _ (zzs _))) h0.ne
def qxj{fr:Fr}{ds:CL Deferred}(h:DfRel C w S β fr ds){v:PV}(hg:qao fr=[v])(hv:v≠.u):∃d,ds=[d]/\DRel C w S β v d:=by
 obtain⟨sl,h1,h2,h3,h4,h5⟩:=h;obtain⟨t0,g1,g2,g3⟩:=qyq fr hg;have hm:t0∈sl:=h3 t0 g1 (by rw[g2];exact hv);have hall:∀j (hj:j<sl.length),sl[j]=t0:=λj hj=>by
  have h0:=(h5 j hj (by omega)).ne;cases Nat.decEq sl[j] t0 with
  |isTrue h=>exact h
  |isFalse h=>exact absurd (g3 _ (h2 _ (zzs hj)) h) h0
 have hlen:sl.length=1:=by
  rcases Nat.lt_trichotomy sl.length 1 with h|h|h
  ·have:sl=[]:=by cases sl with|nil=>rfl|cons _ _=>simp at h
   rw[this]at hm;cases hm
  ·exact h
  ·have hpw:=List.pairwise_iff_getElem.1 h1 0 1 (by omega) h (by omega);rw[hall 0 (by omega),hall 1 h]at hpw;exact absurd rfl hpw
 have hd1:ds.length=1:=by omega
 match ds,hd1 with
 |[d],_=>refine⟨d,rfl,?_⟩;have h0:=h5 0 (by omega) (by simp);rw[hall 0 (by omega),g2]at h0;exact h0
def FnR(C:Cx)(B:Nat)(w:CU)(S:qad)(β:Pl)(H:CW)(v:PV)(H':CW)(e:Ending)(w':CU):Prop:=
 ∃u S' β',e=.returned u/\Ext B w S w' S'/\Swf w' S'/\HOK C B w' S' β' H'/\Lb H.length β β'/\Ac C w' S' β' v u/\H.length<=H'.length
def qxX(hO:OrOK P C N E)(hN:NOK P N C E.G){n:Nat}{F:PF}{fn:Func}{c:Code}(f4:qgi P fn.results.toList=some F.results)(f5:qaE F.body=qaB P N c)(f6:qcj (F.Bn+(fn.ntmps-F.Bn)) false F.body=true)(f7:F.Bn+(fn.ntmps-F.Bn)<=gh)
  {args:Cz} {v:PV} {H':CW} (h:qbr E (lpN n) F args H=some (v,H')) {us:CL CP} (hS:Swf w S) (hG:GOK N E.G w S) (hB:B<=w.heap.size) (hH:HOK C B w S β H)
  (hl:args.length=us.length) (hr:∀j (h:j<args.length) (h':j<us.length),Ac C w S β args[j] us[j]) (hY:YOK P C N E.G E.yld B w S β H.length) (nf:Nat) :
  c.wpIn (FR none) nf P (bodyPostM (FR none) nf P fn (FnR C B w S β H v H')) { tmps:=us.toArray++Array.replicate (fn.ntmps-us.toArray.size) undef,defers:=[] } w:=by
 unfold qbr at h;split at h
 ·rename_i hn;have hsz:us.toArray.size=F.Bn:=by simp;omega
  have hI:Inv P N C E B H.length (F.Bn+(fn.ntmps-F.Bn)) ⟨Fr.Aa 0 args,H⟩ { tmps:=us.toArray++Array.replicate (fn.ntmps-us.toArray.size) undef,defers:=[] } w S β:=by
   refine⟨hS,hG,hB,hH,?_,by simp only[Array.size_append,Array.size_replicate,hsz],?_,⟨H.length,zzt _,hY⟩,zzt _⟩
   ·intro t;rw[qsx];simp only[zzK,if_true,Nat.sub_zero];by_cases ht:t<args.length
    ·rw[List.getD,zze ht,zzA];have ht':t<us.length:=by omega
     have:(us.toArray++Array.replicate (fn.ntmps-us.toArray.size) undef).getD t undef=us[t]:=by rw[zzx,Array.getElem?_append_left (by simpa using ht')];simp[ht']
     rw[this];exact hr t ht ht'
    ·rw[List.getD,List.getElem?_eq_none (by omega),Option.getD_none];exact .u _
   ·refine⟨[],List.nodup_nil,λt ht=>absurd ht (zzC),λt ht hne=>absurd ?_ hne,rfl,λj hj=>absurd hj (zzm _)⟩;show (Fr.Aa 0 args).get t=.u;rw[qsx];simp only[zzK,if_true,Nat.sub_zero];rw[List.getD,List.getElem?_eq_none (by omega),Option.getD_none]
  have last:∀(fr:Fr) (H2:CW) (vs:Cz) (tmps:Array CP) (w':CU) (S':qad) (β':Pl),Swf w' S'->HOK C B w' S' β' H2->(∀t,Ac C w' S' β' (fr.get t) (tmps.getD t undef))->Ext B w S w' S'->Lb H.length β β'->H.length<=H2.length->Sim.results fr H2 F.results=some vs->qbi vs=v->H2=H'->
    LeavesInM (FR none) nf P fn tmps (FnR C B w S β H v H') [] .returning w':=by
   rintro fr H2 vs tmps w' S' β' g1 g2 g3 g4 g5 g6 hvs rfl rfl;obtain⟨us',e1,e2,e3⟩:=qqk (a:={ tmps:=tmps,defers:=[] }) g2 g3 f4 hvs;refine⟨(if h:us'.toArray.size=1 then us'.toArray[0]else .tuple us'.toArray),?_,_,S',β',rfl,g4,g1,g2,g5,qOq e2 e3,g6⟩;have e4:(fn.results.mapM (qjC tmps)).run P w'=.ok us'.toArray w':=by rw[Array.mapM_eq_mapM_toList,Sem.run_map,e1];rfl
   unfold Go.results;rw[Sem.run_bind];show Result.andThen ((fn.results.mapM (qjC tmps)).run P w') _=_;rw[e4];rfl
  have fin:∀(s:St) (H2:CW) (vs:Cz) (a':Act) (w':CU) (S':qad) (β':Pl),Inv P N C E B H.length (F.Bn+(fn.ntmps-F.Bn)) s a' w' S' β'->Ext B w S w' S'->Lb H.length β β'->Bj E (qao s.fr) s.H=some H2->Sim.results s.fr H2 F.results=some vs->qbi vs=v->H2=H'->
    LeavesInM (FR none) nf P fn a'.tmps (FnR C B w S β H v H') a'.defers .returning w':=by
   intro s H2 vs a' w' S' β' hI' g1 g2 hg hvs hpk hH2;unfold Bj at hg;split at hg
   ·rename_i hgs;simp only[zzb]at hg;rw[qxi hI'.defers hgs];rw[<-hg]at hvs hH2;exact last s.fr s.H vs a'.tmps w' S' β' hI'.swf hI'.hok hI'.fok g1 g2 hI'.base hvs hpk hH2
   ·rename_i o hgs;split at hg
    ·rename_i hob;simp only[zzb]at hg;obtain⟨d,hd,hr⟩:=qxj hI'.defers hgs (by simp);obtain⟨r,rfl,hb⟩:=hr;have hb:β' o=.sp r .defer:=by
      rcases hb with hb|hb
      ·exact hb
      ·rw[hI'.hok.dead o hb]at hob;cases hob
     obtain⟨-,y,k1,k2⟩:=hI'.hok.sp o r _ hb;rw[hob]at k1;cases k1;have k2:w'.heap[r]? = some (.deferred (some [])):=k2;obtain⟨e4,h4,l4⟩:=qyz hI'.hok hI'.swf hb (.deferred none);rw[hd];refine⟨by simp,.inl ⟨r,_,rfl,run_takeDeferred k2,?_⟩⟩;rw[<-hg]at hvs hH2;refine last s.fr _ vs a'.tmps _ S' _ (hI'.swf.ext e4) h4 (λt=>(hI'.fok t).ext e4 l4) (g1.trans e4) (g2.trans λo' ho'=>?_) (by rw[qa2];exact hI'.base) hvs hpk hH2;refine⟨l4 o',λhp=>?_⟩;have hne:o'≠o:=λhq=>by subst hq;rw[hb]at hp;cases hp
     rw[qaC hne];exact hp
    ·cases hg
   ·rename_i m caps hgs;split at hg;case isFalse=>cases hg
    rename_i hdok;split at hg
    ·rename_i rv H3 href;simp only[zzb]at hg;subst hg;obtain⟨d,hd,hr⟩:=qxj hI'.defers hgs (by simp);obtain⟨us',rfl,q2,q3⟩:=hr;obtain⟨fn',z1,z2,z3⟩:=hO.fn _ _ _ _ href;rw[hd];refine⟨by simp,.inr ⟨(λh=>by simp[FR,Fence.wide]at h),.func (C.μ m),us'.toArray,C.μ m,us'.toArray,rfl,?_,λ_ _=>trivial,?_⟩⟩
     ·simp only[invoke,Array.empty_append];exact qqm z1 z2 z3 _
     ·refine CallsDIn.mono (hO.dfr _ _ _ _ _ hdok href B w' S' β' us' .returning (nf-1) hI'.hB hI'.swf hI'.gok hI'.hok q2 q3) ?_;rintro e u' w3 ⟨rfl,u,S3,β3,rfl,e3,hS3,hH3,lat3,-,hl3,kp3⟩;refine last s.fr H3 vs a'.tmps w3 S3 β3 hS3 hH3 (λt=>(hI'.fok t).ext e3 lat3) (g1.trans e3) (g2.trans λo' ho'=>⟨lat3 o',λhp=>kp3 o' ?_ ?_ hp⟩) (zzL hI'.base hl3) hvs hpk hH2
      ·have:=hI'.base;omega
      ·have:=hI'.base;omega
    ·cases hg
   ·cases hg
  split at h
  ·rename_i s hs;split at h
   ·rename_i H2 hg;split at h
    ·rename_i vs hvs;simp only[zzb,zzc]at h;refine qkw hO hN f7 F.body c f5 H.length none nf f6 _ s .norm _ w S β _ hs hI ?_;intro a' w' S' β' hI' g1 g2;exact fin s H2 vs a' w' S' β' hI' g1 g2 hg hvs h.1 h.2
    ·cases h
   ·cases h
  ·rename_i s hs;split at h
   ·rename_i H2 hg;split at h
    ·rename_i vs hvs;simp only[zzb,zzc]at h;refine qkw hO hN f7 F.body c f5 H.length none nf f6 _ s .ret _ w S β _ hs hI ?_;intro a' w' S' β' hI' g1 g2;exact fin s H2 vs a' w' S' β' hI' g1 g2 hg hvs h.1 h.2
    ·cases h
   ·cases h
  ·cases h
 ·cases h
def qxW(hO:OrOK P C N E)(hN:NOK P N C E.G){n:Nat}{f:FuncId}{F:PF}(hF:qhK P N f F){args:Cz}{v:PV}{H':CW}(h:qbr E (lpN n) F args H=some (v,H')){us:CL CP}(hS:Swf w S)(hG:GOK N E.G w S)(hB:B<=w.heap.size)(hH:HOK C B w S β H)
  (hl:args.length=us.length) (hr:∀j (h:j<args.length) (h':j<us.length),Ac C w S β args[j] us[j]) (hY:YOK P C N E.G E.yld B w S β H.length):Calls P f us.toArray w (FnR C B w S β H v H'):=by
 obtain⟨fn,c,f1,-,f3,f4,f5,f6,f7⟩:=hF;exact (callsIn_wide (n:=0)).1 (callsIn_of_wp_marks f1 f3 trivial (qxX hO hN f4 f5 f6 f7 h hS hG hB hH hl hr hY 0))
def qGa(hO:OrOK P C N E)(hN:NOK P N C E.G){n:Nat}{f:FuncId}{F:PF}(hF:qhK P N f F){args:Cz}{v:PV}{H':CW}(h:qbr E (lpN n) F args H=some (v,H')){us:CL CP}(hS:Swf w S)(hG:GOK N E.G w S)(hB:B<=w.heap.size)(hH:HOK C B w S β H)
  (hl:args.length=us.length) (hr:∀j (h:j<args.length) (h':j<us.length),Ac C w S β args[j] us[j]) (hY:YOK P C N E.G E.yld B w S β H.length) (u:FrameMode) (nf:Nat):CallsDIn Fence.wide nf P f us.toArray u w λe u' w'=>u'=u/\FnR C B w S β H v H' e w':=by
 obtain⟨fn,c,f1,-,f3,f4,f5,f6,f7⟩:=hF;exact qEL f1 f3 (qxX hO hN f4 f5 f6 f7 h hS hG hB hH hl hr hY nf)
end
section
variable {P:CV}{N:Names}{C:Cx}{w:CU}{S:qad}{β:Pl}{B:Nat}{H:CW}{a:Act}{E:Env}
structure TabOK (P:Program) (N:Names) (C:Cx) (T:Tab):Prop where
 names:NOK P N C T.G
 f:∀f F,T.F f=some F->qhK P N (C.μ f) F
 x:∀f ds r own,T.F f=none->T.X f ds=some (r,own)->qe8 P C N T.G f ds r own
 r:∀f args H r H',T.F f=none->T.R f args H=some (r,H')->qnZ P C N T.G f args H r H'
 rf:∀f args H r,T.F f=none->T.R f args H=some r->∃fn,P.funcs[C.μ f]? = some fn/\fn.body.isNone=false/\fn.name ≠ "runtime.NumGoroutine"
 xf:∀f ds r,T.F f=none->T.X f ds=some r->∃fn,P.funcs[C.μ f]? = some fn/\fn.body.isNone=false/\fn.name ≠ "runtime.NumGoroutine"
def qBs{w0:CU}{S0:qad}{v r:PV}{own:CO}{u:CP}(h:AC H v=some (r,own))(hS:Swf w S)(hH:HOK C w0.heap.size w S β H)(he:Ext w0.heap.size w0 S0 w S)(hv:Ac C w S β v u) :
  ∃S',Ext w0.heap.size w0 S0 w S'/\Swf w S'/\(own=false->Ac C w S' (λ_=>.pend) r u)/\(own=true->∃k es,r=.d (.l k es false)/\qoo w S' k es u w0.heap.size):=by
 have frozen:∀os,Ext w0.heap.size w0 S0 w (FSq β H os S)/\Swf w (FSq β H os S):=λos=>⟨he.trans (qey hH os),qi7 hH hS os⟩;unfold AC at h;split at h
 ·split at h
  ·rename_i xs os hp;cases h;cases hv with
   |t _ us h1 h2=>
   obtain⟨h3,h4⟩:=qtX hH hp;refine⟨FSq β H os S,(frozen os).1,(frozen os).2,λ_=>.t _ us (by simp;omega) ?_,λh=>by cases h⟩;intro j hj hj';rw[List.getElem_map];exact .d _ _ (h4 us h2 j _ hj')
  ·cases h
 ·rename_i o k off len t;split at h
  ·rename_i k' ro es ho;split at h
   ·rename_i hc;obtain⟨rfl,hle⟩:=hc;simp only[zzb,zzc]at h;obtain⟨rfl,hown⟩:=h;cases hb:own with
    |false=>refine⟨FSq β H [o] S,(frozen [o]).1,(frozen [o]).2,λ_=>?_,λh=>by cases h⟩;exact .d _ _ (qtS hH hv (by simp[qaW,ho,hle]))
    |true=>
     rw[hb]at hown;have hro:ro<=off:=by simpa using hown
     refine⟨S,he,hS,(λh=>by cases h),λ_=>⟨_,_,rfl,?_⟩⟩;cases hv with
     |r _ _ _ _ _ _ h0 hx=>
     have hlen:((es.drop off).take len).length=len:=by simp;omega
     unfold RelRf at hx;split at hx
     ·exact hx.elim
     ·rename_i hb;rw[hH.dead o hb]at ho;cases ho
     ·obtain⟨rfl,rfl,a,rfl⟩:=hx;exact .inl ⟨by simp,a,rfl⟩
     ·rename_i blk base k3 hb;obtain⟨e1,cap,a,rfl,e2,e3,e4,e',n,e5,e6⟩:=hx;subst e1;rcases Nat.eq_zero_or_pos cap with h0|h0
      ·subst h0;have:len=0:=by omega
       subst this;exact .inl ⟨by simp,some a,rfl⟩
      ·have:=e2 h0;subst this;obtain⟨hB,x,cells,e0,ho',hs,hw,hc⟩:=hH.live o blk base k3 hb;rw[ho]at ho';cases ho';obtain⟨q0,c,q1,q2,q3⟩:=hc;have hcs:n=cells.size:=by unfold World.shape? at e5;rw[hw]at e5;cases e5;rfl
       subst hcs;refine .inr ⟨blk,base+off*k3.size,cap,cells,e0,by rw[hlen],by omega,hB,hw,by rw[Nat.add_assoc,<-zzl];exact e6,?_,?_⟩
       ·intro j hj;refine q3 j ?_;have:ro*k3.size<=off*k3.size:=zzh _ hro;omega
       ·refine⟨?_,λj=>c (off+j),?_,?_⟩
        ·rw[hlen,zzJ,Array.length_toList];have:(off+len)*k3.size<=(off+cap)*k3.size:=zzh _ (by omega);rw[zzl]at this;omega
        ·intro j hj m hm;have:=q1 (off+j) (by omega) m hm;rw[zzl]at this;rw[List.getElem?_drop];have e7:base+off*k3.size+(j*k3.size+m)=base+(off*k3.size+j*k3.size)+m:=by omega
         rw[e7];simpa using this
        ·intro j hj;have:=q2 (off+j) (by omega);simpa[List.getElem_drop,List.getElem_take]using this
     ·exact hx.elim
   ·cases h
  ·cases h
 ·rename_i k es;simp only[zzb,zzc]at h;obtain⟨rfl,hown⟩:=h;cases hv with
  |d _ _ hv=>
  refine⟨S,he,hS,λ_=>?_,λh1=>⟨k,es,rfl,?_⟩⟩
  ·cases hv with
   |l _ _ _ a cap blk off c c1 c2 c3 c4 c5=>exact .d _ _ (.l _ _ false a cap blk off c c1 (λh=>by cases h) c3 c4 c5)
  ·rw[h1]at hown;have:es=[]:=by simpa using hown
   subst this;cases hv with
   |l _ _ _ a cap blk off c c1 c2 c3 c4 c5=>
   have:=c2 rfl;subst this;exact .inl ⟨rfl,a,rfl⟩
 ·split at h
  ·rename_i x os hp;cases h;exact⟨FSq β H os S,(frozen os).1,(frozen os).2,λ_=>.d _ _ (qk7 hH hv hp),λh=>by cases h⟩
  ·cases h
def qxV{v r:PV}{H1 H':CW}{e:Ending}{w':CU}(hH:HOK C B w S β H)(h:FnR C B w S β H v H1 e w')(hg:gcV H.length v H1=(r,H')) :
  ∃u S' β',e=.returned u/\Ext B w S w' S'/\Swf w' S'/\HOK C B w' S' β' H'/\Later β β'/\Ac C w' S' β' r u/\H.length<=H'.length/\Kp H.length H.length β β':=by
 obtain⟨u,S',β',rfl,e1,e2,e3,e4,e5,e6⟩:=h;obtain⟨β2,k1,k2,k3,k4⟩:=qyc e3 e5 e6;rw[hg]at k1 k2 k4;have hlb:=e4.trans k3;exact⟨u,S',β2,rfl,e1,e2,k1,qtc hlb (λo ho=>hH.out o ho),k2,k4,λo ho _ hp=>(hlb o ho).2 hp⟩
def qA1{T:Tab}{n:Nat}(h:OrOK P C N (qcx T n))(Y:Nat->Cz->CW->CJ):OrOK P C N (Bb T n Y):=⟨h.val,h.ref,h.dfr,h.it,h.fni,h.fnv,h.fn⟩
def qQf{T:Tab}(hT:TabOK P N C T):∀n,OrOK P C N (qcx T n):=by
 intro n;induction n with
 |zero=>exact⟨λf ds r own h=>by simp[qcx,Bb,qc4]at h,λf args H r H' h=>by simp[qcx,Bb,qho,itN]at h,λf args H r H' hd h=>by simp[qcx,Bb,qho,itN]at h,λY f args H r H' h=>by simp[qcx,Bb,itN]at h,λY f args H r h=>by simp[qcx,Bb,itN]at h,λf ds r h=>by simp[qcx,Bb,qc4]at h,λf args H r h=>by simp[qcx,Bb,qho,itN]at h⟩
 |succ n ih=>
  have fni:∀Y f args H r,itN T (n+1) Y f args H=some r->∃fn,P.funcs[C.μ f]? = some fn/\fn.body.isNone=false/\fn.name ≠ "runtime.NumGoroutine" :=by
   intro Y f args H r h;rw[qee]at h;cases hF:T.F f with
   |none=>rw[hF]at h;exact hT.rf _ _ _ _ hF h
   |some F=>obtain⟨fn,c,f1,f2,f3,-⟩:=hT.f f F hF;exact⟨fn,f1,by rw[f3];rfl,f2⟩
  have it:∀Y f args H r H',itN T (n+1) Y f args H=some (r,H')->qvH P C N T.G Y f args H r H':=by
   intro Y f args H r H' h;rw[qee]at h;cases hF:T.F f with
   |none=>rw[hF]at h;intro B w S β us hB hS hG hH hl hr hY;exact hT.r _ _ _ _ _ hF h B w S β us hB hS hG hH hl hr
   |some F=>
    rw[hF]at h;simp only at h;split at h
    ·rename_i v H1 he;simp only[zzb]at h;intro B w S β us hB hS hG hH hl hr hY;refine (qxW (qA1 ih Y) hT.names (hT.f f F hF) he hS hG hB hH hl hr hY).mono ?_;intro e w' hR;exact qxV hH hR h
    ·cases h
  refine⟨?_,λf args H r H' h B w S β us hB hS hG hH hl hr=>it noY f args H r H' h B w S β us hB hS hG hH hl hr qqI,?_,it,fni,?_,λf args H r h=>fni noY f args H r h⟩
  ·intro f ds r own h;change qc4 T (n+1) f ds=some (r,own)at h;rw[qis]at h;cases hF:T.F f with
   |none=>rw[hF]at h;exact hT.x f ds r own hF h
   |some F=>
    rw[hF]at h;simp only at h;split at h
    ·rename_i v H' he;intro w S us hS hG hl hr;have h0:HOK C w.heap.size w S (λ_=>.pend) []:=⟨(λo blk base k h=>by cases h),(λo h=>by cases h),(λo h=>by cases h),(λo o' blk base k base' k' h=>by cases h),λ_ _=>rfl,(λo blk x h=>by cases h),(λo o' blk x x' h=>by cases h)⟩;have:=qxW ih hT.names (hT.f f F hF) (args:=ds.map .d) (H:=[]) he hS hG (zzt _) h0 (by simpa using hl) (λj hj hj'=>by
      rw[List.getElem_map];exact .d _ _ (hr j (by simpa using hj) hj')) qqI
     refine this.mono ?_;rintro e w' ⟨u,S',β',rfl,e1,e2,e3,-,e5,-⟩;obtain⟨S2,q1,q2,q3,q4⟩:=qBs h e2 e3 e1 e5;exact⟨u,S2,rfl,q1,q2,q3,q4⟩
    ·cases h
  ·intro f args H r H' hd h;change itN T (n+1) noY f args H=some (r,H')at h;rw[qee]at h;cases hF:T.F f with
   |none=>simp[qcx,Bb,Tab.dok,hF]at hd
   |some F=>
    rw[hF]at h;simp only at h;split at h
    ·rename_i v H1 he;simp only[zzb]at h;intro B w S β us u nf hB hS hG hH hl hr;refine CallsDIn.mono (qGa (qA1 ih noY) hT.names (hT.f f F hF) he hS hG hB hH hl hr qqI u nf) ?_;rintro e u' w' ⟨rfl,hR⟩;exact⟨rfl,qxV hH hR h⟩
    ·cases h
  ·intro f ds r h;change qc4 T (n+1) f ds=some r at h;rw[qis]at h;cases hF:T.F f with
   |none=>rw[hF]at h;exact hT.xf f ds r hF h
   |some F=>obtain⟨fn,c,f1,f2,f3,-⟩:=hT.f f F hF;exact⟨fn,f1,by rw[f3];rfl,f2⟩
def qC7{T:Tab}(hT:TabOK P N C T){f:Nat}{ds:Cy}{r:PV}{own:CO}(h:T.val f ds=some (r,own)):qe8 P C N T.G f ds r own:=by obtain⟨n,hn⟩:=(qli T f ds (r,own)).1 h;exact (qQf hT n).val f ds r own hn
def qI4{T:Tab}(hT:TabOK P N C T){f:Nat}{ds:Cy}{own:CO}(h:T.val f ds=some (.d (.b true),own)){us:CL CP}(hS:Swf w S)(hG:GOK N T.G w S)(hl:ds.length=us.length)(hr:∀j (h:j<ds.length) (h':j<us.length),Al w S ds[j] us[j]) :
  Calls P (C.μ f) us.toArray w λe w'=>e=.returned (.bool true)/\Below w.heap.size w w':=by
 refine (qC7 hT h w S us hS hG hl hr).mono ?_;rintro e w' ⟨u,S',rfl,e1,-,e3,e4⟩;cases own with
 |false=>exact⟨by rw[qhU (e3 rfl)],e1.below⟩
 |true=>obtain⟨k,es,h,-⟩:=e4 rfl;cases h
end
section
variable {P:CV}{N:Names}{C:Cx}{w:CU}{S:qad}{β:Pl}{B:Nat}{H:CW}{a:Act}{E:Env}
def qvI(P:CV)(N:Names)(f:FuncId)(k:K)(b:Nat):Prop:=
 ∃(fn:Func) (T e T':CQ) (z:DV) (k0:K) (i0 i1 i2 i3:Nat) (o0 o1 o2 o3:Oper) (O4:Array Oper),P.funcs[f]? = some fn/\
  fn.body=some (.seq (.region i0 #[o0] false) (.seq (.seq (.region i1 #[o1,o2] false) (.cond (.tmp 4) (.seq (.region i2 #[o3] false) .ret) .skip)) (.seq (.region i3 O4 false) .ret)))/\
  P.underlying T=some (.slice e)/\fn.results.toList=[.tmp 2]/\fn.ntmps=8/\
  qau P N #[o0] o0=⟨some 2,.mov (.c (.l k0 [] true)),none⟩/\o1.dst=some 3/\o1.op=.move (.tmp 0)/\o1.guard=none/\o2.dst=some 4/\o2.op=.binOp .eql T (.tmp 3) (.const (.slice none 0 0)) T'/\o2.guard=none/\
  qau P N #[o3] o3=⟨some 2,.mov (.c (.l k [] true)),none⟩/\
  O4.toList.map (qau P N O4)=[⟨some 5,.bsl k z 0 [],none⟩,⟨some 6,.mov (.t 0),none⟩,⟨some 7,.app k b (.t 5) (.t 6),none⟩,⟨some 2,.mov (.t 7),none⟩]
def noE(G:Nat->CK (DV×K)):Env:={ G:=G,val:=λ_ _=>none,ref:=λ_ _ _=>none,yld:=noY,it:=λ_ _ _ _=>none,dok:=λ_=>false }
def qKI(G:Nat->CK (DV×K)):OrOK P C N (noE G):=⟨(λf ds r own h=>by cases h),(λf args H r H' h=>by cases h),(λf args H r H' hd h=>by cases h),(λY f args H r H' h=>by cases h),(λY f args H r h=>by cases h),(λf ds r h=>by cases h),(λf args H r h=>by cases h)⟩
def K.eq_refl(k:K):K.eq k k=true:=by cases k<;>simp[K.eq]
def qE8{G:Nat->CK (DV×K)}(hN:NOK P N C G){f:Nat}{k:K}{b:Nat}(hc:qvI P N (C.μ f) k b){ds:Cy}{r:PV}{own:CO}(h:qmJ k b ds=some (r,own)):qe8 P C N G f ds r own:=by
 unfold qmJ at h;split at h;case h_2=>cases h
 rename_i k' es t;split at h;case isFalse=>cases h
 rename_i hck;simp only[zzb,zzc]at h;obtain⟨rfl,rfl⟩:=h;simp only[zzf,Bool.or_eq_true,zzq,List.isEmpty_iff]at hck;obtain⟨hk,hb⟩:=hck;intro w S us hS hG hl hr;obtain⟨fn,T,e,T',z,k0,i0,i1,i2,i3,o0,o1,o2,o3,O4,f1,f2,f3,f4,f5,f6,f7,f8,f9,f10,f11,f12,f13,f14⟩:=hc;have hus:us.length=1:=by simpa using hl.symm
 have h0:HOK C w.heap.size w S (λ_=>.pend) []:=⟨(λo blk base k h=>by cases h),(λo h=>by cases h),(λo h=>by cases h),(λo o' blk base k base' k' h=>by cases h),λ_ _=>rfl,(λo blk x h=>by cases h),(λo o' blk x x' h=>by cases h)⟩;refine (qrG (ro:=none) (nf:=0)).1 (callsIn_of_wp (F:=FR none) f1 f2 trivial ?_);have hOO:OrOK P C N (noE G):=qKI G;have hNN:NOK P N C (noE G).G:=hN;have hI:Inv P N C (noE G) w.heap.size 0 8 ⟨[(0,.d (.l k' es t))],[]⟩ { tmps:=us.toArray++Array.replicate (fn.ntmps-us.toArray.size) undef,defers:=[] } w S (λ_=>.pend):=by
  refine⟨hS,hG,zzt _,h0,?_,by simp[hus,f5],⟨[],List.nodup_nil,λt ht=>absurd ht (zzC),λt ht hne=>absurd ?_ hne,rfl,λj hj=>absurd hj (zzm _)⟩,⟨0,zzt _,qqI⟩,zzt _⟩
  rotate_left
  ·show (if 0=t then _ else PV.u)=.u;rw[if_neg (by unfold gh at ht;omega)]
  intro t';simp only[Fr.get];split
  ·rename_i ht;subst ht;have:=hr 0 (by simp) (by omega);simp only[List.getElem_cons_zero]at this;have e1:(us.toArray++Array.replicate (fn.ntmps-us.toArray.size) undef).getD 0 undef=us[0]:=by rw[zzx,Array.getElem?_append_left (by simp[hus])];simp[hus]
   rw[e1];exact .d _ _ this
  ·exact .u _
 have fin:∀(s:St) (v:PV) (a':Act) (w':CU) (S':qad) (β':Pl),Inv P N C (noE G) w.heap.size 0 8 s a' w' S' β'->Ext w.heap.size w S w' S'->s.fr.get 2=v->qao s.fr=[]->AC s.H v=some (.d (.l k es false),true)->
   bodyPost P fn (λe w'=>∃v S',e=.returned v/\Ext w.heap.size w S w' S'/\Swf w' S'/\(true=false->Ac C w' S' (λ_=>.pend) (.d (.l k es false)) v)/\(true=true->∃k2 es2,PV.d (.l k es false)=.d (.l k2 es2 false)/\qoo w' S' k2 es2 v w.heap.size)) .ret a' w':=by
  intro s v a' w' S' β' hI' g1 hv hgs hp;have hd:qgi P fn.results.toList=some [.t 2]:=by rw[f4];rfl
  obtain⟨us',e1,e2,e3⟩:=qqk hI'.hok hI'.fok hd (vs:=[v]) (by simp[Sim.results,hv]);have hlu:us'.length=1:=by simpa using e2.symm
  have e4:(fn.results.mapM (qjC a'.tmps)).run P w'=.ok us'.toArray w':=by rw[Array.mapM_eq_mapM_toList,Sem.run_map,e1];rfl
  obtain⟨S2,q1,q2,q3,q4⟩:=qBs hp hI'.swf hI'.hok g1 (e3 0 (by simp) (by omega));refine⟨?_,us'[0],?_,us'[0],S2,rfl,q1,q2,q3,q4⟩
  ·exact qxi hI'.defers hgs
  unfold Go.results;rw[Sem.run_bind];show Result.andThen ((fn.results.mapM (qjC a'.tmps)).run P w') _=_;rw[e4];simp[hlu]
 revert fin;generalize bodyPost P fn _=QQ;intro fin;refine wpIn_seq ?_;refine qkw (n:=0) hOO hNN (by decide:8<=gh) (.reg [⟨some 2,.mov (.c (.l k0 [] true)),none⟩] []) (.region i0 #[o0] false) (by simp[qaB,qaE,f6]) 0 none 0 rfl _ ⟨[(2,.d (.l k0 [] true)),(0,.d (.l k' es t))],[]⟩ .norm _ w S _ _ (by simp[qag,qcn,qaF,qar,IOp.adds,qaa,rd,Fr.set,Fr.drop]) hI ?_;intro a1 w1 S1 β1 hI1 g1 _;refine wpIn_seq (wpIn_seq (wpIn_region ?_));have hw1:∀a:Act,Region.wanted o1 (yielded #[o1,o2] a.tmps)=true:=λa=>by simp[Region.wanted,f9]
 have hw2:∀a:Act,Region.wanted o2 (yielded #[o1,o2] a.tmps)=true:=λa=>by simp[Region.wanted,f12]
 show wpOpsIn (FR none) 0 P #[o1,o2] _ [0,1] a1 w1;simp only[wpOpsIn,List.getElem?_toArray,List.getElem?_cons_zero,List.getElem?_cons_succ,hw1,hw2,if_true];refine qaV (w':=w1) (u:=a1.eval (.tmp 0)) (λc h=>by rw[f8]at h;cases h) (by simp[execOp,f8]) ?_;rw[f7];have hv0:=hI1.fok 0;simp only[Fr.get,if_true]at hv0;have hF2:FOK C w1 S1 β1 _ (a1.put (some 3) (a1.eval (.tmp 0))):=hI1.fok.put (d:=3) (by rw[hI1.size];omega) hv0;have hv3:=hF2 3;rw[qdu,if_pos rfl]at hv3;obtain⟨av,cap,hav,hcap,hnil⟩:∃av cap,(a1.put (some 3) (a1.eval (.tmp 0))).eval (.tmp 3)=.slice av es.length cap/\(t=true->cap=es.length)/\(0<es.length->∃p,av=some p):=by
  change Ac C w1 S1 β1 _ ((a1.put (some 3) (a1.eval (.tmp 0))).eval (.tmp 3))at hv3;generalize (a1.put (some 3) (a1.eval (.tmp 0))).eval (.tmp 3)=v3 at hv3;cases hv3 with
  |d _ _ hv3=>
  cases hv3 with
  |l _ _ _ av cap blk off c c1 c2 c3 c4 c5=>exact⟨av,cap,rfl,c2,λh=>⟨_,c3 h⟩⟩
 have hexec:(execOp (a1.put (some 3) (a1.eval (.tmp 0))).eval o2).run P w1=.ok (.value (.bool av.isNone)) w1:=by
  simp only[execOp,f11,hav];refine qa8 ?_;have e1:(a1.put (some 3) (a1.eval (.tmp 0))).eval (.const (.slice none 0 0))=.slice none 0 0:=rfl;rw[e1];have e2:(eqGuard .eql T (.tmp 3) (.const (.slice none 0 0)) (.slice av es.length cap) (.slice none 0 0)).run P w1=.ok () w1:=by simp[eqGuard]
  simp only[Sem.run_bind,e2,Result.andThen_ok,run_eql_slice_nil w1 T e av es.length cap f3]
 refine qaV (λc h=>by rw[f11]at h;cases h) hexec ?_;rw[f10];have hF3:=hF2.put (d:=4) (v:=.d (.b av.isNone)) (u:=.bool av.isNone) (by simp[Act.put,hI1.size]) (.d _ _ (.b _));generalize ha2:((a1.put (some 3) (a1.eval (.tmp 0))).put (some 4) (.bool av.isNone))=a2 at *
 have hI2:Inv P N C (noE G) w.heap.size 0 8 ⟨[(4,.d (.b av.isNone)),(3,.d (.l k' es t)),(2,.d (.l k0 [] true)),(0,.d (.l k' es t))],[]⟩ a2 w1 S1 β1:=by
  refine⟨hI1.swf,hI1.gok,hI1.hB,hI1.hok,hF3,?_,?_,hI1.yok,zzt _⟩
  ·rw[<-ha2];simp[Act.put,hI1.size]
  ·rw[<-ha2];refine hI1.defers.frame λt ht=>?_;unfold gh at ht;simp only[Fr.get];repeat rw[if_neg (by omega)]
 have hcond:a2.eval (.tmp 4)=.bool av.isNone:=by have:=hI2.fok 4;simp only[Fr.get]at this;exact qhU this
 show (Code.cond _ _ _).wpIn (FR none) 0 P _ a2 w1;cases hav2:av with
 |none=>
  rw[hav2]at hcond;have hes:es=[]:=by
   cases es with
   |nil=>rfl
   |cons x xs=>obtain⟨p,hp⟩:=hnil (by simp);rw[hav2]at hp;cases hp
  subst hes;refine wpIn_cond_true hcond ?_;refine qkw (n:=0) hOO hNN (by decide:8<=gh) (.seq (.reg [⟨some 2,.mov (.c (.l k [] true)),none⟩] []) .ret) (.seq (.region i2 #[o3] false) .ret) (by simp[qaB,qaE,f13]) 0 none 0 rfl _ ⟨[(4,.d (.b av.isNone)),(3,.d (.l k' [] t)),(2,.d (.l k [] true)),(0,.d (.l k' [] t))],[]⟩ .ret _ w1 S1 _ _ (by simp[qag,qcn,qaF,qar,IOp.adds,qaa,rd,Fr.set,Fr.drop]) hI2 ?_;intro a3 w3 S3 β3 hI3 g3 _;exact fin _ _ a3 w3 S3 β3 hI3 (g1.trans g3) rfl rfl (by simp[AC,Fr.get])
 |some p=>
  rw[hav2]at hcond;refine wpIn_cond_false hcond (wpIn_skip ?_);have hke:(K.eq k k'||es.isEmpty)=true:=by
   rcases hk with hk|hk
   ·rw[hk];simp
   ·simp[hk]
  have hb':(0+es.length)*b<=2^47:=by rw[Nat.zero_add];exact hb
  show (Code.seq _ _).wpIn (FR none) 0 P _ a2 w1;cases hes:es with
  |nil=>
   subst hes;refine qkw (n:=0) hOO hNN (by decide:8<=gh) (.seq (.reg [⟨some 5,.bsl k z 0 [],none⟩,⟨some 6,.mov (.t 0),none⟩,⟨some 7,.app k b (.t 5) (.t 6),none⟩,⟨some 2,.mov (.t 7),none⟩] []) .ret) (.seq (.region i3 O4 false) .ret) (by simp[qaB,qaE,f14]) 0 none 0 rfl _ ⟨[(7,.r 0 k 0 0 true),(6,.d (.l k' [] t)),(5,.r 0 k 0 0 true),(4,.d (.b av.isNone)),(3,.d (.l k' [] t)),(2,.r 0 k 0 0 true),(0,.d (.l k' [] t))],[some (.sl k 0 []),none]⟩ .ret _ w1 S1 _ _
    (by simp[qag,qcn,qaF,qar,IOp.adds,qaa,rd,Fr.set,Fr.get,Fr.drop,qbN,frz,Heap.put,Heap.obj,qcb,qbb,K.eq_refl]) hI2 ?_
   intro a3 w3 S3 β3 hI3 g3 _;exact fin _ _ a3 w3 S3 β3 hI3 (g1.trans g3) rfl rfl (by simp[AC,Heap.obj,Fr.get])
  |cons x xs=>
   rw[hes]at hke hb';have hkk:K.eq k k'=true:=by simpa using hke
   subst hes;refine qkw (n:=0) hOO hNN (by decide:8<=gh) (.seq (.reg [⟨some 5,.bsl k z 0 [],none⟩,⟨some 6,.mov (.t 0),none⟩,⟨some 7,.app k b (.t 5) (.t 6),none⟩,⟨some 2,.mov (.t 7),none⟩] []) .ret) (.seq (.region i3 O4 false) .ret) (by simp[qaB,qaE,f14]) 0 none 0 rfl _ ⟨[(7,.r 1 k 0 (0+(x::xs).length) false),(6,.d (.l k' (x::xs) t)),(5,.r 0 k 0 0 true),(4,.d (.b av.isNone)),(3,.d (.l k' (x::xs) t)),(2,.r 1 k 0 (0+(x::xs).length) false),(0,.d (.l k' (x::xs) t))],[some (.sl k 0 []),some (.sl k 0 (x::xs))]⟩ .ret _ w1 S1 _ _
    (by
     have hb2:(xs.length+1)*b<=140737488355328:=by simpa using hb'
     simp[qag,qcn,qaF,qar,IOp.adds,qaa,rd,Fr.set,Fr.get,Fr.drop,qbN,frz,Heap.put,Heap.obj,qcb,qbb,K.eq_refl,hkk,hb2]) hI2 ?_
   intro a3 w3 S3 β3 hI3 g3 _;exact fin _ _ a3 w3 S3 β3 hI3 (g1.trans g3) rfl rfl (by simp[AC,Heap.obj,Fr.get])
end
def qnn(l:CL (Nat×Nat×Nat))(f:Nat):CK (Nat×Nat):=match l with
 |[]=>none
 | (g,x)::r=>if g=f then some x else qnn r f
def qpT(l:CL (Nat×Nat×Nat))(n:Nat):Nat:=match l with
 |[]=>0
 | (g,k,_)::r=>if k=n then g else qpT r n
def qAF{f:Nat}{x:Nat×Nat}:∀{l:CL (Nat×Nat×Nat)},qnn l f=some x->(f,x)∈l
 |[],h=>by cases h
 | (g,y)::r,h=>by
  simp only[qnn]at h;split at h
  ·rename_i hg;subst hg;cases h;exact zzr ..
  ·exact zzi _ (qAF h)
def qKK{P:CV}{l:CL (Nat×Nat×Nat)}{G:Nat->CK (DV×K)}{g:Nat->Nat}(hm:P.follows .mixedOrders=true)(h:(l.all λx=>qpT l x.2.1==x.1)=true):NOK P ⟨qnn l,g⟩ ⟨qpT l⟩ G:=by refine⟨?_,hm⟩;intro f x hx;have:=List.all_eq_true.1 h _ (qAF hx);simpa using this
def asciiL:CE:=[0,0,0,0,0,0,0,0,0,1,1,1,1,1,0,0,0,0,0,0,0,0,0,0,0,0,0,0,0,0,0,0,1,0,0,0,0,0,0,0,0,0,0,0,0,0,0,0,0,0,0,0,0,0,0,0,0,0,0,0,0,0,0,0,0,0,0,0,0,0,0,0,0,0,0,0,0,0,0,0,0,0,0,0,0,0,0,0,0,0,0,0,0,0,0,0,0,0,0,0,0,0,0,0,0,0,0,0,0,0,0,0,0,0,0,0,0,0,0,0,0,0,0,0,0,0,0,0,0,0,0,0,0,0,0,0,0,0,0,0,0,0,0,0,0,0,0,0,0,0,0,0,0,0,0,0,0,0,0,0,0,0,0,0,0,0,0,0,0,0,0,0,0,0,0,0,0,0,0,0,0,0,0,0,0,0,0,0,0,0,0,0,0,0,0,0,0,0,0,0,0,0,0,0,0,0,0,0,0,0,0,0,0,0,0,0,0,0,0,0,0,0,0,0,0,0,0,0,0,0,0,0,0,0,0,0,0,0,0,0,0,0,0,0,0,0,0,0,0,0,0,0,0,0,0,0]
