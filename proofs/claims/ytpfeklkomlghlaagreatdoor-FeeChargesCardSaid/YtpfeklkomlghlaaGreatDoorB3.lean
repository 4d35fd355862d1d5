/- Part 3 of the proof. -/
import Derived.Test.YtpfeklkomlghlaaGreatDoorB1
set_option linter.all false
namespace Go.Sim
set_option maxRecDepth 100000
set_option maxHeartbeats 8000000
noncomputable def qnf{α:Type}(g:Nat->CK α):CK α:=
 open Classical in if h:∃ n, (g n).isSome=true then g (Classical.choose h) else none
def qPl{α:Type}{g:Nat->CK α}(hm:∀n r,g n=some r->g (n+1)=some r)(k:Nat):∀n r,g n=some r->g (n+k)=some r:=by
 induction k with
 |zero=>exact λn r h=>h
 |succ k ih=>exact λn r h=>hm _ _ (ih n r h)
def qBK{α:Type}{g:Nat->CK α}(hm:∀n r,g n=some r->g (n+1)=some r){n m:Nat}(h:n<=m){r:α}(hr:g n=some r):g m=some r:=by obtain⟨k,rfl⟩:=Nat.exists_eq_add_of_le h;exact qPl hm k n r hr
def qtj{α:Type}{g:Nat->CK α}(hm:∀n r,g n=some r->g (n+1)=some r)(r:α):qnf g=some r↔∃n,g n=some r:=by
 unfold qnf;constructor
 ·intro h;split at h
  ·exact⟨_,h⟩
  ·cases h
 ·rintro⟨n,hn⟩;have h:∃n,(g n).isSome=true:=⟨n,by simp[hn]⟩;rw[dif_pos h];obtain⟨x,hx⟩:=Option.isSome_iff_exists.1 (Classical.choose_spec h);have a:=qBK hm (Nat.le_max_left n (Classical.choose h)) hn;have b:=qBK hm (Nat.le_max_right n (Classical.choose h)) hx;rw[a]at b;rw[hx];exact b.symm
def qJZ:∀(n:Nat) (f:St->Res) (s:St) (r:Ex×St),lpN n f s=some r->lpN (n+1) f s=some r:=by
 intro n;induction n with
 |zero=>intro f s r h;cases h
 |succ n ih=>
  intro f s r h;rw[lpN]at h;split at h
  ·rename_i s' hs;rw[lpN];simp only[hs];exact ih f s' r h
  ·rename_i hs;rw[lpN];split
   ·rename_i s' hs';exact absurd hs' (hs s')
   ·exact h
noncomputable def lpI(f:St->Res)(s:St):Res:=qnf λn=>lpN n f s
def qng(f:St->Res)(s:St)(r:Ex×St):lpI f s=some r↔∃n,lpN n f s=some r:=qtj (λn r h=>qJZ n f s r h) r
def qtl(f:St->Res)(s:St):lpI f s=match f s with|some (.norm,s')=>lpI f s'|r=>r:=by
 apply Option.ext;intro r;rw[qng];constructor
 ·rintro⟨n,h⟩;cases n with
  |zero=>cases h
  |succ n=>
   rw[lpN]at h;split at h
   ·rename_i s' hs;simp only[hs];rw[qng];exact⟨n,h⟩
   ·rename_i hs;split
    ·rename_i s' hs';exact absurd hs' (hs s')
    ·exact h
 ·intro h;split at h
  ·rename_i s' hs;obtain⟨n,hn⟩:=(qng f s' r).1 h;exact⟨n+1,by rw[lpN];simp only[hs];exact hn⟩
  ·rename_i hs;refine⟨1,?_⟩;rw[lpN];split
   ·rename_i s' hs';exact absurd hs' (hs s')
   ·exact h
def qAd{f:St->Res}{s s':St}(h:f s=some (.norm,s')):lpI f s=lpI f s':=by rw[qtl,h]
def qtk{f:St->Res}{s s':St}{e:Ex}(h:f s=some (e,s'))(he:e≠.norm):lpI f s=some (e,s'):=by rw[qtl,h];cases e<;>first|rfl|exact absurd rfl he
def YL(Y Y':Nat->Cz->CW->CJ):Prop:=∀o a H r,Y o a H=some r->Y' o a H=some r
def YL.refl(Y:Nat->Cz->CW->CJ):YL Y Y:=λ_ _ _ _ h=>h
structure EL (E E':Env):Prop where
 G:E.G=E'.G
 ref:∀f a H r,E.ref f a H=some r->E'.ref f a H=some r
 val:∀f a r,E.val f a=some r->E'.val f a=some r
 yld:YL E.yld E'.yld
 it:∀Y Y',YL Y Y'->∀f a H r,E.it Y f a H=some r->E'.it Y' f a H=some r
 dok:E.dok=E'.dok
def EL.rd{E E':Env}(h:EL E E')(fr:Fr):rd E fr=rd E' fr:=by funext x;cases x<;>simp[Sim.rd,h.G]
def EL.op{E E':Env}(h:EL E E')(ρ:Ab->PV)(H:CW)(id:Nat)(op:IOp)(r:PV×CW)(hr:qaa E ρ H id op=some r):qaa E' ρ H id op=some r:=by
 cases op with
 |call m f args=>
  match m with
  |0=>
   simp only[qaa]at hr⊢;split at hr
   ·split at hr
    ·rename_i hv;rw[h.val _ _ _ hv];exact hr
    ·cases hr
   ·cases hr
  |1=>
   simp only[qaa]at hr⊢;split at hr
   ·split at hr
    ·rename_i hv;rw[h.val _ _ _ hv];exact hr
    ·cases hr
   ·cases hr
  |n+2=>simp only[qaa]at hr⊢;exact h.ref _ _ _ _ hr
 |BI x args=>
  simp only[qaa]at hr⊢;split at hr
  ·split at hr
   ·split at hr
    ·rename_i hv;rw[h.val _ _ _ hv];exact hr
    ·cases hr
   ·exact h.ref _ _ _ _ hr
  ·split at hr
   ·split at hr
    ·rename_i hv;rw[h.val _ _ _ hv];exact hr
    ·cases hr
   ·exact h.ref _ _ _ _ hr
  ·exact h.yld _ _ _ _ hr
  ·cases hr
 |invk tab x args=>
  simp only[qaa]at hr⊢;split at hr
  ·split at hr
   ·split at hr
    ·split at hr
     ·rename_i hv;rw[h.val _ _ _ hv];exact hr
     ·cases hr
    ·cases hr
   ·exact h.ref _ _ _ _ hr
   ·cases hr
  ·cases hr
 |_=>exact hr
def EL.ops{E E':Env}(h:EL E E'):∀(ops:CL Ap) (id:Nat) (s r:St),qaF E ops id s=some r->qaF E' ops id s=some r
 |[],_,_,_,hr=>hr
 |o::l,id,s,r,hr=>by
  have ih:=h.ops l;have hgo:∀x,(match qaa E (Sim.rd E s.fr) s.H id o.op with
    |some (v,H)=>qaF E l (if o.op.adds then id+1 else id) ⟨match o.dst with|some t=>s.fr.set t v|none=>s.fr,H⟩
    |none=>none)=some x->(match qaa E' (Sim.rd E' s.fr) s.H id o.op with
    |some (v,H)=>qaF E' l (if o.op.adds then id+1 else id) ⟨match o.dst with|some t=>s.fr.set t v|none=>s.fr,H⟩
    |none=>none)=some x:=by
   intro x hx;split at hx
   ·rename_i v H he;rw[<-h.rd,h.op _ _ _ _ _ he];exact ih _ _ _ hx
   ·cases hx
  simp only[qaF]at hr⊢;split at hr
  ·exact hgo _ hr
  ·split at hr
   ·split at hr
    ·rename_i hw;simp only[hw,if_true];exact hgo _ hr
    ·rename_i hw;simp only[hw,if_false,zzg];exact ih _ _ _ hr
   ·exact ih _ _ _ hr
   ·cases hr
def EL.reg{E E':Env}(h:EL E E')(ops:CL Ap)(kill:CF)(s r:St)(hr:qcn E ops kill s=some r):qcn E' ops kill s=some r:=by
 unfold qcn at hr⊢;split at hr
 ·rename_i he;rw[h.ops _ _ _ _ he];exact hr
 ·cases hr
def EL.opD{E E':Env}(h:EL E E')(ρ:Ab->PV)(H:CW)(id:Nat)(op:IOp)(r:PV×CW)(hr:qaq E ρ H id op=some r):qaq E' ρ H id op=some r:=by
 unfold qaq at hr⊢;split at hr
 ·rename_i hk;rw[if_pos hk];exact h.op _ _ _ _ _ hr
 ·rename_i hk;rw[if_neg hk];split at hr
  ·rename_i hb;rw[if_pos hb];split at hr
   ·rename_i v H' he;rw[h.op _ _ _ _ _ he];exact hr
   ·cases hr
  ·cases hr
def EL.Ar{E E':Env}(h:EL E E')(o:Ap)(id:Nat)(s s':St):Sim.Ar E o id s s'=Sim.Ar E' o id s s':=by unfold Sim.Ar;rw[h.rd]
def EL.Az{E E':Env}(h:EL E E')(o:Ap)(s:St):Sim.Az E o s=Sim.Az E' o s:=by unfold Sim.Az;rw[h.rd]
def EL.Bi{E E':Env}(h:EL E E')(o:Ap)(id:Nat)(s r:St)(hr:Bi E o id s=some r):Sim.Bi E' o id s=some r:=by
 have hgo:∀x,(match qaq E (Sim.rd E s.fr) s.H id o.op with
   |some (v,H)=>some (⟨match o.dst with|some t=>s.fr.set t v|none=>s.fr,H⟩:St)
   |none=>none)=some x->(match qaq E' (Sim.rd E' s.fr) s.H id o.op with
   |some (v,H)=>some (⟨match o.dst with|some t=>s.fr.set t v|none=>s.fr,H⟩:St)
   |none=>none)=some x:=by
  intro x hx;split at hx
  ·rename_i v H he;rw[<-h.rd,h.opD _ _ _ _ _ he];exact hx
  ·cases hx
 simp only[Sim.Bi]at hr⊢;split at hr
 ·exact hgo _ hr
 ·split at hr
  ·split at hr
   ·rename_i hw;simp only[hw,if_true];exact hgo _ hr
   ·rename_i hw;simp only[hw,if_false,zzg];exact hr
  ·exact hr
  ·cases hr
def EL.opsD{E E':Env}(h:EL E E'):∀(ops:CL Ap) (bf:CF) (acc:CL (CF×CF)) (id:Nat) (s r:St),qbW E ops bf acc id s=some r->qbW E' ops bf acc id s=some r
 |[],_,_,_,_,_,hr=>hr
 |o::l,bf,acc,id,s,r,hr=>by
  simp only[qbW]at hr⊢;split at hr
  ·rename_i s' hs;rw[h.Bi _ _ _ _ hs];simp only[h.Ar,h.Az]at hr;split at hr
   ·rename_i hp;simp only[hp,if_true];exact h.opsD l _ _ _ _ _ hr
   ·cases hr
  ·cases hr
def EL.Ba{E E':Env}(h:EL E E')(ops:CL Ap)(bf kill:CF)(s r:St)(hr:qdq E ops bf kill s=some r):qdq E' ops bf kill s=some r:=by
 unfold qdq at hr⊢;split at hr
 ·rename_i he;rw[h.opsD _ _ _ _ _ _ he];exact hr
 ·cases hr
def LL(lp lp':(St->Res)->St->Res):Prop:=∀f f' s r,(∀s r,f s=some r->f' s=some r)->lp f s=some r->lp' f' s=some r
def qBL{evA evA' evX evX':Nat->St->Res}(hA:∀b s r,evA b s=some r->evA' b s=some r)(hX:∀b s r,evX b s=some r->evX' b s=some r)(fr:Fr)(o:Nat)(ps:CF)
  {y y':Nat->Cz->CW->CJ} (hy:YL y y'):YL (qdy evA evX fr o ps y) (qdy evA' evX' fr o ps y'):=by
 intro o' args H r h;unfold qdy at h⊢;split at h
 ·rename_i ho;rw[if_pos ho];split at h
  ·rename_i hl;rw[if_pos hl];split at h
   ·rename_i h1;try rw[h1]
    try simp only
    split at h
    ·rename_i s1 h2;rw[hA _ _ _ h2];try simp only
     split at h
     ·rename_i h3;try rw[h3]
      try simp only
      split at h
      ·rename_i e s2 h4;rw[hX _ _ _ h4];exact h
      ·cases h
     ·cases h
    ·cases h
   ·cases h
  ·cases h
 ·rename_i ho;rw[if_neg ho];exact hy _ _ _ _ h
def EL.code{E E':Env}(h:EL E E'){lp lp':(St->Res)->St->Res}(hl:LL lp lp'):∀(c:PC) (base:Nat) (s:St) (r:Ex×St),qag E lp base c s=some r->qag E' lp' base c s=some r:=by
 intro c;induction c with
 |skip=>exact λbase s r hr=>hr
 |reg ops kill=>
  intro base s r hr;simp only[qag]at hr⊢;split at hr
  ·rename_i he;rw[h.reg _ _ _ _ he];exact hr
  ·cases hr
 |Ba ops bf kill=>
  intro base s r hr;simp only[qag]at hr⊢;split at hr
  ·rename_i he;rw[h.Ba _ _ _ _ _ he];exact hr
  ·cases hr
 |seq a b iha ihb=>
  intro base s r hr;simp only[qag]at hr⊢;split at hr
  ·rename_i s' he;rw[iha _ _ _ he];exact ihb _ _ _ hr
  ·rename_i hn;cases ha:qag E lp base a s with
   |none=>rw[ha]at hr;cases hr
   |some x=>
    rw[iha _ _ _ ha,<-ha];obtain⟨e,s'⟩:=x;cases e with
    |norm=>exact absurd ha (hn s')
    |exit id=>rw[ha];rw[ha]at hr;exact hr
    |ret=>rw[ha];rw[ha]at hr;exact hr
 |cond c x y ihx ihy=>
  intro base s r hr;simp only[qag]at hr⊢;rw[<-h.rd];split at hr
  ·rename_i hc;exact ihx _ _ _ hr
  ·rename_i hc;exact ihy _ _ _ hr
  ·cases hr
 |block id x ih=>
  intro base s r hr;simp only[qag]at hr⊢;cases hx:qag E lp base x s with
  |none=>rw[hx]at hr;cases hr
  |some v=>rw[hx]at hr;rw[ih _ _ _ hx];exact hr
 |loop live x ih=>intro base s r hr;simp only[qag]at hr⊢;exact hl _ _ _ _ (λs r hs=>ih _ _ _ hs) hr
 |rng f g ps live a x iha ihx=>
  intro base s r hr;simp only[qag]at hr⊢;rw[<-h.rd];split at hr
  ·rename_i n caps h1 h2;split at hr
   ·rename_i v H' he;rw[h.it _ _ (qBL (λb s r hs=>iha b s r hs) (λb s r hs=>ihx b s r hs) _ _ _ h.yld) _ _ _ _ he];exact hr
   ·cases hr
  ·cases hr
 |exit id=>exact λbase s r hr=>hr
 |ret=>exact λbase s r hr=>hr
 |bad=>exact λbase s r hr=>hr
def EL.Bj{E E':Env}(h:EL E E')(gs:Cz)(H:CW)(r:CW)(hr:Bj E gs H=some r):Sim.Bj E' gs H=some r:=by
 unfold Sim.Bj at hr⊢;split at hr
 ·exact hr
 ·exact hr
 ·split at hr
  ·rename_i hd;rw[h.dok]at hd;split at hr
   ·rename_i he;simp only[hd,if_true,h.ref _ _ _ _ he];exact hr
   ·cases hr
  ·cases hr
 ·cases hr
def EL.fn{E E':Env}(h:EL E E'){lp lp':(St->Res)->St->Res}(hl:LL lp lp')(F:PF)(args:Cz)(H:CW)(r:PV×CW)(hr:qbr E lp F args H=some r):qbr E' lp' F args H=some r:=by
 unfold qbr at hr⊢;split at hr
 ·rename_i ha;rw[if_pos ha];split at hr
  ·rename_i s hx;rw[h.code hl _ _ _ _ hx];simp only;split at hr
   ·rename_i H' hg;rw[h.Bj _ _ _ hg];exact hr
   ·cases hr
  ·rename_i s hx;rw[h.code hl _ _ _ _ hx];simp only;split at hr
   ·rename_i H' hg;rw[h.Bj _ _ _ hg];exact hr
   ·cases hr
  ·cases hr
 ·cases hr
def qtm(n:Nat):LL (lpN n) (lpN (n+1)):=by
 induction n with
 |zero=>intro f f' s r _ h;cases h
 |succ n ih=>
  intro f f' s r hf h;rw[lpN]at h⊢;split at h
  ·rename_i s' hs;rw[hf _ _ hs];exact ih _ _ _ _ hf h
  ·rename_i hn;cases hs:f s with
   |none=>rw[hs]at h;cases h
   |some v=>
    rw[hf _ _ hs];rw[hs]at h;obtain⟨e,s'⟩:=v;cases e with
    |norm=>exact absurd hs (hn s')
    |exit id=>exact h
    |ret=>exact h
def qpN(n:Nat):LL (lpN n) (lpN n):=by
 induction n with
 |zero=>intro f f' s r _ h;cases h
 |succ n ih=>
  intro f f' s r hf h;rw[lpN]at h⊢;split at h
  ·rename_i s' hs;rw[hf _ _ hs];exact ih _ _ _ _ hf h
  ·rename_i hn;cases hs:f s with
   |none=>rw[hs]at h;cases h
   |some v=>
    rw[hf _ _ hs];rw[hs]at h;obtain⟨e,s'⟩:=v;cases e with
    |norm=>exact absurd hs (hn s')
    |exit id=>exact h
    |ret=>exact h
def qtn{n m:Nat}(h:n<=m):LL (lpN n) (lpN m):=by
 obtain⟨k,rfl⟩:=Nat.exists_eq_add_of_le h;induction k with
 |zero=>exact qpN n
 |succ k ih=>intro f f' s r hf h;exact qtm (n+k) _ _ _ _ hf (ih (by omega) _ _ _ _ (λ_ _ h=>h) h)
def qAe(n:Nat):LL (lpN n) lpI:=λ_ f' s r hf h=>(qng f' s r).2 ⟨n,qtn (zzt n) _ _ _ _ hf h⟩
def Bb(T:Tab)(n:Nat)(Y:Nat->Cz->CW->CJ):Env:=⟨T.G,qho T n,qc4 T n,Y,itN T n,T.dok⟩
def qcx(T:Tab)(n:Nat):Env:=Bb T n noY
def qee(T:Tab)(n:Nat)(Y:Nat->Cz->CW->CJ)(f:Nat)(args:Cz)(H:CW):itN T (n+1) Y f args H=match T.F f with
  |some F=>match qbr (Bb T n Y) (lpN n) F args H with
   |some (v,H')=>some (gcV H.length v H')
   |none=>none
  |none=>T.R f args H:=by rw[itN];rfl
def qBI(T:Tab)(n f:Nat)(args:Cz)(H:CW):qho T (n+1) f args H=match T.F f with
  |some F=>match qbr (qcx T n) (lpN n) F args H with
   |some (v,H')=>some (gcV H.length v H')
   |none=>none
  |none=>T.R f args H:=qee T n noY f args H
def qis(T:Tab)(n f:Nat)(args:Cy):qc4 T (n+1) f args=match T.F f with
  |some F=>match qbr (qcx T n) (lpN n) F (args.map .d) []with
   |some (v,H')=>AC H' v
   |none=>none
  |none=>T.X f args:=by rw[qc4];rfl
def qxy(T:Tab):∀n Y Y',YL Y Y'->EL (Bb T n Y) (Bb T n Y')/\EL (Bb T n Y) (Bb T (n+1) Y'):=by
 intro n;induction n with
 |zero=>
  intro Y Y' hY;exact⟨⟨rfl,λ_ _ _ _ h=>h,λ_ _ _ h=>h,hY,λ_ _ _ _ _ _ _ h=>by simp[Bb,itN]at h,rfl⟩,
   ⟨rfl,λ_ _ _ _ h=>by simp[Bb,qho,itN]at h,λ_ _ _ h=>by simp[Bb,qc4]at h,hY,λ_ _ _ _ _ _ _ h=>by simp[Bb,itN]at h,rfl⟩⟩
 |succ n ih=>
  intro Y Y' hY;have hit:∀Y Y',YL Y Y'->∀f a H r,itN T (n+1) Y f a H=some r->itN T (n+1) Y' f a H=some r:=by
   intro Y Y' hY f a H r h;rw[qee]at h⊢;split at h
   ·rename_i F hF;split at h
    ·rename_i v H' he;rw[EL.fn (ih Y Y' hY).1 (qpN n) _ _ _ _ he];exact h
    ·cases h
   ·exact h
  have hup:∀Y Y',YL Y Y'->∀f a H r,itN T (n+1) Y f a H=some r->itN T (n+1+1) Y' f a H=some r:=by
   intro Y Y' hY f a H r h;rw[qee]at h⊢;split at h
   ·rename_i F hF;split at h
    ·rename_i v H' he;rw[EL.fn (ih Y Y' hY).2 (qtm n) _ _ _ _ he];exact h
    ·cases h
   ·exact h
  refine⟨⟨rfl,λ_ _ _ _ h=>h,λ_ _ _ h=>h,hY,hit,rfl⟩,⟨rfl,λf a H r h=>hup noY noY (YL.refl _) f a H r h,λf a r h=>?_,hY,hup,rfl⟩⟩;change qc4 T (n+1) f a=some r at h;change qc4 T (n+1+1) f a=some r;rw[qis]at h⊢;split at h
  ·rename_i F hF;split at h
   ·rename_i v H' he;have he':qbr (qcx T (n+1)) (lpN (n+1)) F (a.map .d) []=some (v,H'):=EL.fn (ih noY noY (YL.refl _)).2 (qtm n) _ _ _ _ he;rw[he'];exact h
   ·cases h
  ·exact h
def EL.trans{A B C:Env}(h:EL A B)(k:EL B C):EL A C:=
 ⟨h.G.trans k.G,λ_f _a _H _r x=>k.ref _ _ _ _ (h.ref _ _ _ _ x),λ_f _a _r x=>k.val _ _ _ (h.val _ _ _ x),λ_o _a _H _r x=>k.yld _ _ _ _ (h.yld _ _ _ _ x),λ_Y _Y' hY _f _a _H _r x=>k.it _ _ (YL.refl _) _ _ _ _ (h.it _ _ hY _ _ _ _ x),h.dok.trans k.dok⟩
def qkB(T:Tab){n m:Nat}(h:n<=m){Y Y':Nat->Cz->CW->CJ}(hY:YL Y Y'):EL (Bb T n Y) (Bb T m Y'):=by
 obtain⟨k,rfl⟩:=Nat.exists_eq_add_of_le h;induction k with
 |zero=>exact (qxy T n Y Y' hY).1
 |succ k ih=>exact EL.trans (ih (by omega)) (qxy T (n+k) Y' Y' (YL.refl _)).2
def qFN(T:Tab){n m:Nat}(h:n<=m):EL (qcx T n) (qcx T m):=qkB T h (YL.refl _)
noncomputable def Tab.it(T:Tab)(Y:Nat->Cz->CW->CJ)(f:Nat)(args:Cz)(H:CW):CJ:=qnf λn=>itN T n Y f args H
noncomputable def Tab.ref(T:Tab)(f:Nat)(args:Cz)(H:CW):CJ:=T.it noY f args H
noncomputable def Tab.val(T:Tab)(f:Nat)(args:Cy):CG:=qnf λn=>qc4 T n f args
def qpA(T:Tab)(Y:Nat->Cz->CW->CJ)(f:Nat)(args:Cz)(H:CW)(r:PV×CW):T.it Y f args H=some r↔∃n,itN T n Y f args H=some r:=
 qtj (λn r h=>(qkB T (Nat.le_succ n) (YL.refl noY)).it _ _ (YL.refl Y) f args H r h) r
def qqi(T:Tab)(f:Nat)(args:Cz)(H:CW)(r:PV×CW):T.ref f args H=some r↔∃n,qho T n f args H=some r:=qpA T noY f args H r
def qli(T:Tab)(f:Nat)(args:Cy)(r:PV×CO):T.val f args=some r↔∃n,qc4 T n f args=some r:=
 qtj (λn r h=>(qFN T (Nat.le_succ n)).val f args r h) r
noncomputable def Tab.Bb(T:Tab)(Y:Nat->Cz->CW->CJ):Env:=⟨T.G,T.ref,T.val,Y,T.it,T.dok⟩
noncomputable def Tab.env(T:Tab):Env:=T.Bb noY
def qxx(T:Tab)(n:Nat){Y Y':Nat->Cz->CW->CJ}(hY:YL Y Y'):EL (Bb T n Y) (T.Bb Y'):=
 ⟨rfl,λf a H r h=>(qqi T f a H r).2 ⟨n,h⟩,λf a r h=>(qli T f a r).2 ⟨n,h⟩,hY,λ_Y Y' hY f a H r h=>(qpA T Y' f a H r).2 ⟨n,(qkB T (zzt n) (YL.refl noY)).it _ _ hY f a H r h⟩,rfl⟩
def qFM(T:Tab)(n:Nat):EL (qcx T n) T.env:=qxx T n (YL.refl _)
structure YC (Yn:Nat->Nat->List PV->Heap->Option (PV×Heap)) (Y:Nat->List PV->Heap->Option (PV×Heap)):Prop where
 mono:∀n m,n<=m->YL (Yn n) (Yn m)
 fin:∀o a H r,Y o a H=some r->∃n,Yn n o a H=some r
structure Ch (En:Nat->Env) (ln:Nat->(St->Res)->St->Res) (E:Env) (l:(St->Res)->St->Res):Prop where
 mono:∀n m,n<=m->EL (En n) (En m)
 lmono:∀n m,n<=m->LL (ln n) (ln m)
 G:∀n,(En n).G=E.G
 ref:∀f a H r,E.ref f a H=some r->∃n,(En n).ref f a H=some r
 val:∀f a r,E.val f a=some r->∃n,(En n).val f a=some r
 yld:∀o a H r,E.yld o a H=some r->∃n,(En n).yld o a H=some r
 it:∀Yn Y,YC Yn Y->∀f a H r,E.it Y f a H=some r->∃n,(En n).it (Yn n) f a H=some r
 dok:∀n,(En n).dok=E.dok
 lp:∀(fn:Nat->St->Res) (f:St->Res),(∀n m,n<=m->∀s r,fn n s=some r->fn m s=some r)->(∀s r,f s=some r->∃n,fn n s=some r)->∀s r,l f s=some r->∃n,ln n (fn n) s=some r
section
variable {En:Nat->Env}{ln:Nat->(St->Res)->St->Res}{E:Env}{l:(St->Res)->St->Res}
def Ch.rd(h:Ch En ln E l)(n:Nat)(fr:Fr):Sim.rd (En n) fr=Sim.rd E fr:=by funext x;cases x<;>simp[Sim.rd,h.G]
def qtI(h:Ch En ln E l)(ρ:Ab->PV)(H:CW)(id:Nat)(op:IOp)(r:PV×CW)(hr:qaa E ρ H id op=some r):∃n,qaa (En n) ρ H id op=some r:=by
 cases op with
 |call m f args=>
  match m with
  |0=>
   simp only[qaa]at hr;split at hr
   ·split at hr
    ·rename_i hp _ _ _ hv;obtain⟨n,hn⟩:=h.val _ _ _ hv;exact⟨n,by simp only[qaa,hp,hn];exact hr⟩
    ·cases hr
   ·cases hr
  |1=>
   simp only[qaa]at hr;split at hr
   ·split at hr
    ·rename_i hp _ _ _ _ hv;obtain⟨n,hn⟩:=h.val _ _ _ hv;exact⟨n,by simp only[qaa,hp,hn];exact hr⟩
    ·cases hr
   ·cases hr
  |m+2=>simp only[qaa]at hr;obtain⟨n,hn⟩:=h.ref _ _ _ _ hr;exact⟨n,by simp only[qaa];exact hn⟩
 |BI x args=>
  simp only[qaa]at hr;split at hr
  ·rename_i hx;split at hr
   ·rename_i hq;split at hr
    ·rename_i hv;obtain⟨n,hn⟩:=h.val _ _ _ hv;exact⟨n,by simp only[qaa,hx,hq,hn];exact hr⟩
    ·cases hr
   ·rename_i hq;obtain⟨n,hn⟩:=h.ref _ _ _ _ hr;exact⟨n,by simp only[qaa,hx,hq];exact hn⟩
  ·rename_i hx;split at hr
   ·rename_i hq;split at hr
    ·rename_i hv;obtain⟨n,hn⟩:=h.val _ _ _ hv;exact⟨n,by simp only[qaa,hx,hq,hn];exact hr⟩
    ·cases hr
   ·rename_i hq;obtain⟨n,hn⟩:=h.ref _ _ _ _ hr;exact⟨n,by simp only[qaa,hx,hq];exact hn⟩
  ·rename_i hx;obtain⟨n,hn⟩:=h.yld _ _ _ _ hr;exact⟨n,by simp only[qaa,hx];exact hn⟩
  ·cases hr
 |invk tab x args=>
  simp only[qaa]at hr;split at hr
  ·rename_i hx;split at hr
   ·rename_i ht;split at hr
    ·rename_i hp;split at hr
     ·rename_i hv;obtain⟨n,hn⟩:=h.val _ _ _ hv;exact⟨n,by simp only[qaa,hx,ht,hp,hn];exact hr⟩
     ·cases hr
    ·cases hr
   ·rename_i ht;obtain⟨n,hn⟩:=h.ref _ _ _ _ hr;refine⟨n,?_⟩;simp only[qaa,hx,ht];exact hn
   ·cases hr
  ·cases hr
 |_=>exact⟨0,hr⟩
def qp3(h:Ch En ln E l):∀(ops:CL Ap) (id:Nat) (s r:St),qaF E ops id s=some r->∃n,qaF (En n) ops id s=some r
 |[],_,_,_,hr=>⟨0,hr⟩
 |o::l,id,s,r,hr=>by
  have hgo:∀x,(match qaa E (rd E s.fr) s.H id o.op with
    |some (v,H)=>qaF E l (if o.op.adds then id+1 else id) ⟨match o.dst with|some t=>s.fr.set t v|none=>s.fr,H⟩
    |none=>none)=some x->∃n,(match qaa (En n) (rd (En n) s.fr) s.H id o.op with
    |some (v,H)=>qaF (En n) l (if o.op.adds then id+1 else id) ⟨match o.dst with|some t=>s.fr.set t v|none=>s.fr,H⟩
    |none=>none)=some x:=by
   intro x hx;split at hx
   ·rename_i v H he;obtain⟨n,hn⟩:=qtI h _ _ _ _ _ he;obtain⟨m,hm⟩:=qp3 h l _ _ _ hx;refine⟨max n m,?_⟩;rw[h.rd,(h.mono _ _ (Nat.le_max_left n m)).op _ _ _ _ _ hn];exact (h.mono _ _ (Nat.le_max_right n m)).ops _ _ _ _ hm
   ·cases hx
  simp only[qaF]at hr⊢;split at hr
  ·exact hgo _ hr
  ·split at hr
   ·split at hr
    ·rename_i hw;simp only[hw,if_true];exact hgo _ hr
    ·rename_i hw;simp only[hw,if_false,zzg];exact qp3 h l _ _ _ hr
   ·exact qp3 h l _ _ _ hr
   ·cases hr
def qPh(h:Ch En ln E l)(ops:CL Ap)(kill:CF)(s r:St)(hr:qcn E ops kill s=some r):∃n,qcn (En n) ops kill s=some r:=by
 unfold qcn at hr;split at hr
 ·rename_i he;obtain⟨n,hn⟩:=qp3 h _ _ _ _ he;exact⟨n,by unfold qcn;rw[hn];exact hr⟩
 ·cases hr
def qOd(h:Ch En ln E l)(ρ:Ab->PV)(H:CW)(id:Nat)(op:IOp)(r:PV×CW)(hr:qaq E ρ H id op=some r):∃n,qaq (En n) ρ H id op=some r:=by
 unfold qaq at hr;split at hr
 ·rename_i hk;obtain⟨n,hn⟩:=qtI h _ _ _ _ _ hr;exact⟨n,by unfold qaq;rw[if_pos hk];exact hn⟩
 ·rename_i hk;split at hr
  ·rename_i hb;split at hr
   ·rename_i v H' he;obtain⟨n,hn⟩:=qtI h _ _ _ _ _ he;exact⟨n,by unfold qaq;rw[if_neg hk,if_pos hb,hn];exact hr⟩
   ·cases hr
  ·cases hr
def qP1(h:Ch En ln E l)(o:Ap)(id:Nat)(s r:St)(hr:Bi E o id s=some r):∃n,Bi (En n) o id s=some r:=by
 have hgo:∀x,(match qaq E (rd E s.fr) s.H id o.op with
   |some (v,H)=>some (⟨match o.dst with|some t=>s.fr.set t v|none=>s.fr,H⟩:St)
   |none=>none)=some x->∃n,(match qaq (En n) (rd (En n) s.fr) s.H id o.op with
   |some (v,H)=>some (⟨match o.dst with|some t=>s.fr.set t v|none=>s.fr,H⟩:St)
   |none=>none)=some x:=by
  intro x hx;split at hx
  ·rename_i v H he;obtain⟨n,hn⟩:=qOd h _ _ _ _ _ he;exact⟨n,by rw[h.rd,hn];exact hx⟩
  ·cases hx
 simp only[Bi]at hr⊢;split at hr
 ·exact hgo _ hr
 ·split at hr
  ·split at hr
   ·rename_i hw;simp only[hw,if_true];exact hgo _ hr
   ·rename_i hw;simp only[hw,if_false,zzg];exact⟨0,hr⟩
  ·exact⟨0,hr⟩
  ·cases hr
def qAY(h:Ch En ln E l):∀(ops:CL Ap) (bf:CF) (acc:CL (CF×CF)) (id:Nat) (s r:St),qbW E ops bf acc id s=some r->∃n,qbW (En n) ops bf acc id s=some r
 |[],_,_,_,_,_,hr=>⟨0,hr⟩
 |o::l,bf,acc,id,s,r,hr=>by
  simp only[qbW]at hr;split at hr
  ·rename_i s' hs;obtain⟨n,hn⟩:=qP1 h _ _ _ _ hs;have hw:∀n,Sim.Ar (En n) o id s s'=Sim.Ar E o id s s':=λn=>by unfold Sim.Ar;rw[h.rd]
   have ht:∀n,Sim.Az (En n) o s=Sim.Az E o s:=λn=>by unfold Sim.Az;rw[h.rd]
   split at hr
   ·rename_i hp;obtain⟨m,hm⟩:=qAY h l _ _ _ _ _ hr;refine⟨max n m,?_⟩;simp only[qbW];rw[(h.mono _ _ (Nat.le_max_left n m)).Bi _ _ _ _ hn];simp only[hw,ht,hp,if_true];exact (h.mono _ _ (Nat.le_max_right n m)).opsD _ _ _ _ _ _ hm
   ·cases hr
  ·cases hr
def qPe(h:Ch En ln E l)(ops:CL Ap)(bf kill:CF)(s r:St)(hr:qdq E ops bf kill s=some r):∃n,qdq (En n) ops bf kill s=some r:=by
 unfold qdq at hr;split at hr
 ·rename_i he;obtain⟨n,hn⟩:=qAY h _ _ _ _ _ _ he;exact⟨n,by unfold qdq;rw[hn];exact hr⟩
 ·cases hr
def qPm{an xn:Nat->Nat->St->Res}{a x:Nat->St->Res}(ha:∀b s r,a b s=some r->∃n,an n b s=some r)(hx:∀b s r,x b s=some r->∃n,xn n b s=some r)
  (ma:∀n m,n<=m->∀b s r,an n b s=some r->an m b s=some r) (mx:∀n m,n<=m->∀b s r,xn n b s=some r->xn m b s=some r) (fr:Fr) (o:Nat) (ps:CF)
  {yn:Nat->Nat->Cz->CW->CJ} {y:Nat->Cz->CW->CJ} (hy:YC yn y):YC (λn=>qdy (an n) (xn n) fr o ps (yn n)) (qdy a x fr o ps y):=by
 refine⟨λn m hnm=>qBL (ma n m hnm) (mx n m hnm) fr o ps (hy.mono n m hnm),?_⟩;intro o' args H r h;unfold qdy at h;split at h
 ·rename_i ho;split at h
  ·rename_i hl;split at h
   ·rename_i h1;split at h
    ·rename_i s1 h2;split at h
     ·rename_i h3;split at h
      ·rename_i e s2 h4;obtain⟨n,hn⟩:=ha _ _ _ h2;obtain⟨m,hm⟩:=hx _ _ _ h4;refine⟨max n m,?_⟩;unfold qdy;rw[if_pos ho,if_pos hl,h1];simp only;rw[ma _ _ (Nat.le_max_left n m) _ _ _ hn];simp only;rw[h3];simp only;rw[mx _ _ (Nat.le_max_right n m) _ _ _ hm];exact h
      ·cases h
     ·cases h
    ·cases h
   ·cases h
  ·cases h
 ·rename_i ho;obtain⟨n,hn⟩:=hy.fin _ _ _ _ h;exact⟨n,by unfold qdy;rw[if_neg ho];exact hn⟩
def Ch.cmono(h:Ch En ln E l){n m:Nat}(hnm:n<=m)(c:PC)(base:Nat)(s:St)(r:Ex×St)(hr:qag (En n) (ln n) base c s=some r):qag (En m) (ln m) base c s=some r:=
 (h.mono n m hnm).code (h.lmono n m hnm) c base s r hr
def qw4(h:Ch En ln E l):∀(c:PC) (base:Nat) (s:St) (r:Ex×St),qag E l base c s=some r->∃n,qag (En n) (ln n) base c s=some r:=by
 intro c;induction c with
 |skip=>exact λbase s r hr=>⟨0,hr⟩
 |reg ops kill=>
  intro base s r hr;simp only[qag]at hr⊢;split at hr
  ·rename_i he;obtain⟨n,hn⟩:=qPh h _ _ _ _ he;exact⟨n,by rw[hn];exact hr⟩
  ·cases hr
 |Ba ops bf kill=>
  intro base s r hr;simp only[qag]at hr⊢;split at hr
  ·rename_i he;obtain⟨n,hn⟩:=qPe h _ _ _ _ _ he;exact⟨n,by rw[hn];exact hr⟩
  ·cases hr
 |seq a b iha ihb=>
  intro base s r hr;simp only[qag]at hr;cases ha:qag E l base a s with
  |none=>rw[ha]at hr;cases hr
  |some x=>
   obtain⟨n,hn⟩:=iha _ _ _ ha;rw[ha]at hr;obtain⟨e,s'⟩:=x;cases e with
   |norm=>obtain⟨m,hm⟩:=ihb _ _ _ hr;refine⟨max n m,?_⟩;simp only[qag];rw[h.cmono (Nat.le_max_left n m) _ _ _ _ hn];exact h.cmono (Nat.le_max_right n m) _ _ _ _ hm
   |exit id=>exact⟨n,by simp only[qag,hn];exact hr⟩
   |ret=>exact⟨n,by simp only[qag,hn];exact hr⟩
 |cond c x y ihx ihy=>
  intro base s r hr;simp only[qag]at hr⊢;split at hr
  ·rename_i hc;obtain⟨n,hn⟩:=ihx _ _ _ hr;exact⟨n,by rw[h.rd,hc];exact hn⟩
  ·rename_i hc;obtain⟨n,hn⟩:=ihy _ _ _ hr;exact⟨n,by rw[h.rd,hc];exact hn⟩
  ·cases hr
 |block id x ih=>
  intro base s r hr;simp only[qag]at hr⊢;cases hx:qag E l base x s with
  |none=>rw[hx]at hr;cases hr
  |some v=>obtain⟨n,hn⟩:=ih _ _ _ hx;exact⟨n,by rw[hn];rw[hx]at hr;exact hr⟩
 |loop live x ih=>intro base s r hr;simp only[qag]at hr⊢;exact h.lp (λn s=>qag (En n) (ln n) base x (gc live base s)) _ (λn m hnm s r hs=>h.cmono hnm _ _ _ _ hs) (λs r hs=>ih _ _ _ hs) s r hr
 |rng f g ps live a x iha ihx=>
  intro base s r hr;simp only[qag]at hr⊢;split at hr
  ·rename_i k caps h1 h2;split at hr
   ·rename_i v H' he;obtain⟨n,hn⟩:=h.it _ _ (qPm (λb s r hs=>iha b s r hs) (λb s r hs=>ihx b s r hs) (λn m hnm b s r hs=>h.cmono hnm _ _ _ _ hs) (λn m hnm b s r hs=>h.cmono hnm _ _ _ _ hs) _ _ _
     ⟨λn m hnm=>(h.mono n m hnm).yld,h.yld⟩) _ _ _ _ he
    refine⟨n,?_⟩;rw[h.rd,h1,h2];simp only;rw[hn];exact hr
   ·cases hr
  ·cases hr
 |exit id=>exact λbase s r hr=>⟨0,hr⟩
 |ret=>exact λbase s r hr=>⟨0,hr⟩
 |bad=>exact λbase s r hr=>⟨0,hr⟩
def qBO(h:Ch En ln E l)(gs:Cz)(H r:CW)(hr:Bj E gs H=some r):∃n,Bj (En n) gs H=some r:=by
 unfold Bj at hr;split at hr
 ·exact⟨0,by unfold Bj;exact hr⟩
 ·exact⟨0,by unfold Bj;exact hr⟩
 ·split at hr
  ·rename_i hd;split at hr
   ·rename_i he;obtain⟨n,hn⟩:=h.ref _ _ _ _ he;have hd':=hd;rw[<-h.dok n]at hd';exact⟨n,by unfold Bj;simp only[hd',if_true,hn];exact hr⟩
   ·cases hr
  ·cases hr
 ·cases hr
def qsn(h:Ch En ln E l)(F:PF)(args:Cz)(H:CW)(r:PV×CW)(hr:qbr E l F args H=some r):∃n,qbr (En n) (ln n) F args H=some r:=by
 unfold qbr at hr;split at hr
 ·rename_i ha;split at hr
  ·rename_i s hx;split at hr
   ·rename_i H' hg;obtain⟨n,hn⟩:=qw4 h _ _ _ _ hx;obtain⟨m,hm⟩:=qBO h _ _ _ hg;refine⟨max n m,?_⟩;unfold qbr;rw[if_pos ha,h.cmono (Nat.le_max_left n m) _ _ _ _ hn];simp only;rw[(h.mono _ _ (Nat.le_max_right n m)).Bj _ _ _ hm];exact hr
   ·cases hr
  ·rename_i s hx;split at hr
   ·rename_i H' hg;obtain⟨n,hn⟩:=qw4 h _ _ _ _ hx;obtain⟨m,hm⟩:=qBO h _ _ _ hg;refine⟨max n m,?_⟩;unfold qbr;rw[if_pos ha,h.cmono (Nat.le_max_left n m) _ _ _ _ hn];simp only;rw[(h.mono _ _ (Nat.le_max_right n m)).Bj _ _ _ hm];exact hr
   ·cases hr
  ·cases hr
 ·cases hr
end
def qAf(m:Nat):∀(fn:Nat->St->Res) (f:St->Res),(∀n m,n<=m->∀s r,fn n s=some r->fn m s=some r)->(∀s r,f s=some r->∃n,fn n s=some r)->∀s r,lpN m f s=some r->∃n,lpN m (fn n) s=some r:=by
 induction m with
 |zero=>intro fn f _ _ s r h;cases h
 |succ m ih=>
  intro fn f hm hf s r h;rw[lpN]at h;cases hs:f s with
  |none=>rw[hs]at h;cases h
  |some v=>
   obtain⟨n,hn⟩:=hf _ _ hs;rw[hs]at h;obtain⟨e,s'⟩:=v;cases e with
   |norm=>obtain⟨k,hk⟩:=ih fn f hm hf s' r h;refine⟨max n k,?_⟩;rw[lpN,hm _ _ (Nat.le_max_left n k) _ _ hn];exact qpN m _ _ _ _ (hm _ _ (Nat.le_max_right n k)) hk
   |exit id=>exact⟨n,by rw[lpN,hn];exact h⟩
   |ret=>exact⟨n,by rw[lpN,hn];exact h⟩
def qHb(T:Tab):∀m Yn Y,YC Yn Y->∀f a H r,itN T m Y f a H=some r->∃n,itN T m (Yn n) f a H=some r:=by
 intro m;induction m with
 |zero=>intro Yn Y _ f a H r h;simp[itN]at h
 |succ m ih=>
  intro Yn Y hY f a H r h;rw[qee]at h;split at h
  ·rename_i F hF;split at h
   ·rename_i v H' he;have hch:Ch (λn=>Bb T m (Yn n)) (λ_=>lpN m) (Bb T m Y) (lpN m):=
     ⟨λn k hnk=>qkB T (zzt m) (hY.mono n k hnk),λ_ _ _=>qpN m,λ_=>rfl,λ_ _ _ _ h=>⟨0,h⟩,λ_ _ _ h=>⟨0,h⟩,hY.fin,λYn' Y' hY' f a H r h=>ih Yn' Y' hY' f a H r h,λ_=>rfl,qAf m⟩
    obtain⟨n,hn⟩:=qsn hch _ _ _ _ he;exact⟨n,by rw[qee,hF];simp only[hn];exact h⟩
   ·cases h
  ·rename_i hF;exact⟨0,by rw[qee,hF];exact h⟩
def qwX(T:Tab){Yn:Nat->Nat->Cz->CW->CJ}{Y:Nat->Cz->CW->CJ}(hY:YC Yn Y):Ch (λn=>Bb T n (Yn n)) lpN (T.Bb Y) lpI:=by
 refine⟨λn m hnm=>qkB T hnm (hY.mono n m hnm),λn m hnm=>qtn hnm,λ_=>rfl,λf a H r h=>(qqi T f a H r).1 h,λf a r h=>(qli T f a r).1 h,hY.fin,?_,λ_=>rfl,?_⟩
 ·intro Yn' Y' hY' f a H r h;obtain⟨m,hm⟩:=(qpA T Y' f a H r).1 h;obtain⟨n,hn⟩:=qHb T m Yn' Y' hY' f a H r hm;exact⟨max m n,(qkB T (Nat.le_max_left m n) (YL.refl noY)).it _ _ (hY'.mono _ _ (Nat.le_max_right m n)) f a H r hn⟩
 ·intro fn f hm hf s r h;obtain⟨m,hk⟩:=(qng f s r).1 h;obtain⟨n,hn⟩:=qAf m fn f hm hf s r hk;exact⟨max m n,qtn (Nat.le_max_left m n) _ _ _ _ (hm _ _ (Nat.le_max_right m n)) hn⟩
def qwW(Y:Nat->Cz->CW->CJ):YC (λ_=>Y) Y:=⟨λ_ _ _=>YL.refl Y,λ_ _ _ _ h=>⟨0,h⟩⟩
def qC8(T:Tab){f:Nat}{F:PF}(hF:T.F f=some F)(args:Cy):T.val f args=match qbr T.env lpI F (args.map .d) []with
  |some (v,H')=>AC H' v
  |none=>none:=by
 apply Option.ext;intro r;rw[qli];constructor
 ·rintro⟨n,h⟩;cases n with
  |zero=>cases h
  |succ n=>
   rw[qis,hF]at h;simp only at h;split at h
   ·rename_i v H' he;rw[(qFM T n).fn (qAe n) _ _ _ _ he];exact h
   ·cases h
 ·intro h;split at h
  ·rename_i v H' he;obtain⟨n,hn⟩:=qsn (qwX T (qwW noY)) _ _ _ _ he;refine⟨n+1,?_⟩;rw[qis,hF];simp only;have hn':qbr (qcx T n) (lpN n) F (args.map .d) []=some (v,H'):=hn;rw[hn'];exact h
  ·cases h
def qyS(T:Tab){f:Nat}{F:PF}(hF:T.F f=some F)(Y:Nat->Cz->CW->CJ)(args:Cz)(H:CW):T.it Y f args H=match qbr (T.Bb Y) lpI F args H with
  |some (v,H')=>some (gcV H.length v H')
  |none=>none:=by
 apply Option.ext;intro r;rw[qpA];constructor
 ·rintro⟨n,h⟩;cases n with
  |zero=>simp[itN]at h
  |succ n=>
   rw[qee,hF]at h;simp only at h;split at h
   ·rename_i v H' he;rw[(qxx T n (YL.refl Y)).fn (qAe n) _ _ _ _ he];exact h
   ·cases h
 ·intro h;split at h
  ·rename_i v H' he;obtain⟨n,hn⟩:=qsn (qwX T (qwW Y)) _ _ _ _ he;exact⟨n+1,by rw[qee,hF];simp only[hn];exact h⟩
  ·cases h
def qPb(T:Tab){f:Nat}{F:PF}(hF:T.F f=some F)(args:Cz)(H:CW):T.ref f args H=match qbr T.env lpI F args H with
  |some (v,H')=>some (gcV H.length v H')
  |none=>none:=qyS T hF noY args H
def qPc(T:Tab){f:Nat}(hF:T.F f=none)(args:Cz)(H:CW):T.ref f args H=T.R f args H:=by
 apply Option.ext;intro r;rw[qqi];constructor
 ·rintro⟨n,h⟩;cases n with
  |zero=>simp[qho,itN]at h
  |succ n=>rw[qBI,hF]at h;exact h
 ·intro h;exact⟨1,by rw[qBI,hF];exact h⟩
def qnV(T:Tab){f:Nat}(hF:T.F f=none)(args:Cy):T.val f args=T.X f args:=by
 apply Option.ext;intro r;rw[qli];constructor
 ·rintro⟨n,h⟩;cases n with
  |zero=>cases h
  |succ n=>rw[qis,hF]at h;exact h
 ·intro h;exact⟨1,by rw[qis,hF];exact h⟩
