/- Part 3 of the proof. -/
import Derived.Test.YtmaaepdecdhmnaaGreatDoorHB1
set_option linter.all false
namespace Go.Sim
set_option maxRecDepth 100000
set_option maxHeartbeats 8000000
noncomputable def qnF{α:Type}(g:Nat->CE α):CE α:=
 open Classical in if h:∃ n, (g n).isSome=true then g (Classical.choose h) else none
def qPY{α:Type}{g:Nat->CE α}(hm:∀n r,g n=some r->g (n+1)=some r)(k:Nat):∀n r,g n=some r->g (n+k)=some r:=by
 induction k with
 |zero=>exact λn r h=>h
 |succ k ih=>exact λn r h=>hm _ _ (ih n r h)
def qBZ{α:Type}{g:Nat->CE α}(hm:∀n r,g n=some r->g (n+1)=some r){n m:Nat}(h:n<=m){r:α}(hr:g n=some r):g m=some r:=by
 obtain⟨k,rfl⟩:=Nat.exists_eq_add_of_le h;exact qPY hm k n r hr
def qtA{α:Type}{g:Nat->CE α}(hm:∀n r,g n=some r->g (n+1)=some r)(r:α):qnF g=some r↔∃n,g n=some r:=by
 unfold qnF;constructor
 ·intro h;split at h
  ·exact⟨_,h⟩
  ·cases h
 ·rintro⟨n,hn⟩;have h:∃n,(g n).isSome=true:=⟨n,by simp[hn]⟩
  rw[dif_pos h];obtain⟨x,hx⟩:=Option.isSome_iff_exists.1 (Classical.choose_spec h);have a:=qBZ hm (Nat.le_max_left n (Classical.choose h)) hn
  have b:=qBZ hm (Nat.le_max_right n (Classical.choose h)) hx
  rw[a]at b;rw[hx];exact b.symm
def qKu:∀(n:Nat) (f:St->Res) (s:St) (r:Ex×St),lpN n f s=some r->lpN (n+1) f s=some r:=by
 intro n;induction n with
 |zero=>intro f s r h;cases h
 |succ n ih=>
  intro f s r h;rw[lpN]at h;split at h
  ·rename_i s' hs;rw[lpN];simp only[hs];exact ih f s' r h
  ·rename_i hs;rw[lpN];split
   ·rename_i s' hs';exact absurd hs' (hs s')
   ·exact h
noncomputable def lpI(f:St->Res)(s:St):Res:=qnF λn=>lpN n f s
def qnH(f:St->Res)(s:St)(r:Ex×St):lpI f s=some r↔∃n,lpN n f s=some r:=qtA (λn r h=>qKu n f s r h) r
def qtC(f:St->Res)(s:St):lpI f s=match f s with|some (.norm,s')=>lpI f s'|r=>r:=by
 apply Option.ext
 intro r;rw[qnH];constructor
 ·rintro⟨n,h⟩;cases n with
  |zero=>cases h
  |succ n=>
   rw[lpN]at h;split at h
   ·rename_i s' hs;simp only[hs];rw[qnH];exact⟨n,h⟩
   ·rename_i hs;split
    ·rename_i s' hs';exact absurd hs' (hs s')
    ·exact h
 ·intro h;split at h
  ·rename_i s' hs;obtain⟨n,hn⟩:=(qnH f s' r).1 h;exact⟨n+1,by rw[lpN];simp only[hs];exact hn⟩
  ·rename_i hs;refine⟨1,?_⟩;rw[lpN];split
   ·rename_i s' hs';exact absurd hs' (hs s')
   ·exact h
def qAr{f:St->Res}{s s':St}(h:f s=some (.norm,s')):lpI f s=lpI f s':=by rw[qtC,h]
def qtB{f:St->Res}{s s':St}{e:Ex}(h:f s=some (e,s'))(he:e≠.norm):lpI f s=some (e,s'):=by
 rw[qtC,h];cases e<;>first|rfl|exact absurd rfl he
def YL(Y Y':Nat->Cu->CP->CB):Prop:=∀o a H r,Y o a H=some r->Y' o a H=some r
def YL.refl(Y:Nat->Cu->CP->CB):YL Y Y:=λ_ _ _ _ h=>h
structure EL (E E':Env):Prop where
 G:E.G=E'.G
 ref:∀f a H r,E.ref f a H=some r->E'.ref f a H=some r
 val:∀f a r,E.val f a=some r->E'.val f a=some r
 yld:YL E.yld E'.yld
 it:∀Y Y',YL Y Y'->∀f a H r,E.it Y f a H=some r->E'.it Y' f a H=some r
 dok:E.dok=E'.dok
def EL.rd{E E':Env}(h:EL E E')(fr:Fr):rd E fr=rd E' fr:=by
 funext x;cases x<;>simp[Sim.rd,h.G]
def EL.op{E E':Env}(h:EL E E')(ρ:Ab->PV)(H:CP)(id:Nat)(op:IOp)(r:PV×CP)(hr:qaa E ρ H id op=some r):qaa E' ρ H id op=some r:=by
 cases op with
 |call m f args=>
  match m with
  |0=>
   simp only[qaa]at hr⊢;split at hr
   ·split at hr
    ·rename_i hv;rw[h.val _ _ _ hv];exact hr
    ·cases hr
   ·cases hr
  |1=>
   simp only[qaa]at hr⊢;split at hr
   ·split at hr
    ·rename_i hv;rw[h.val _ _ _ hv];exact hr
    ·cases hr
   ·cases hr
  |n+2=>simp only[qaa]at hr⊢;exact h.ref _ _ _ _ hr
 |BH x args=>
  simp only[qaa]at hr⊢;split at hr
  ·split at hr
   ·split at hr
    ·rename_i hv;rw[h.val _ _ _ hv];exact hr
    ·cases hr
   ·exact h.ref _ _ _ _ hr
  ·split at hr
   ·split at hr
    ·rename_i hv;rw[h.val _ _ _ hv];exact hr
    ·cases hr
   ·exact h.ref _ _ _ _ hr
  ·exact h.yld _ _ _ _ hr
  ·cases hr
 |invk tab x args=>
  simp only[qaa]at hr⊢;split at hr
  ·split at hr
   ·split at hr
    ·split at hr
     ·rename_i hv;rw[h.val _ _ _ hv];exact hr
     ·cases hr
    ·cases hr
   ·exact h.ref _ _ _ _ hr
   ·cases hr
  ·cases hr
 |_=>exact hr
def EL.ops{E E':Env}(h:EL E E'):∀(ops:CF Ao) (id:Nat) (s r:St),qaM E ops id s=some r->qaM E' ops id s=some r
 |[],_,_,_,hr=>hr
 |o::l,id,s,r,hr=>by
  have ih:=h.ops l
  have hgo:∀x,(match qaa E (Sim.rd E s.fr) s.H id o.op with
    |some (v,H)=>qaM E l (if o.op.adds then id+1 else id) ⟨match o.dst with|some t=>s.fr.set t v|none=>s.fr,H⟩
    |none=>none)=some x->(match qaa E' (Sim.rd E' s.fr) s.H id o.op with
    |some (v,H)=>qaM E' l (if o.op.adds then id+1 else id) ⟨match o.dst with|some t=>s.fr.set t v|none=>s.fr,H⟩
    |none=>none)=some x:=by
   intro x hx;split at hx
   ·rename_i v H he;rw[<-h.rd,h.op _ _ _ _ _ he];exact ih _ _ _ hx
   ·cases hx
  simp only[qaM]at hr⊢;split at hr
  ·exact hgo _ hr
  ·split at hr
   ·split at hr
    ·rename_i hw;simp only[hw,if_true];exact hgo _ hr
    ·rename_i hw;simp only[hw,if_false,zzg];exact ih _ _ _ hr
   ·exact ih _ _ _ hr
   ·cases hr
def EL.reg{E E':Env}(h:EL E E')(ops:CF Ao)(kill:Cy)(s r:St)(hr:qcu E ops kill s=some r):qcu E' ops kill s=some r:=by
 unfold qcu at hr⊢;split at hr
 ·rename_i he;rw[h.ops _ _ _ _ he];exact hr
 ·cases hr
def EL.opD{E E':Env}(h:EL E E')(ρ:Ab->PV)(H:CP)(id:Nat)(op:IOp)(r:PV×CP)(hr:qal E ρ H id op=some r):qal E' ρ H id op=some r:=by
 unfold qal at hr⊢;split at hr
 ·rename_i hk;rw[if_pos hk];exact h.op _ _ _ _ _ hr
 ·rename_i hk;rw[if_neg hk];split at hr
  ·rename_i hb;rw[if_pos hb];split at hr
   ·rename_i v H' he;rw[h.op _ _ _ _ _ he];exact hr
   ·cases hr
  ·cases hr
def EL.AA{E E':Env}(h:EL E E')(o:Ao)(id:Nat)(s s':St):Sim.AA E o id s s'=Sim.AA E' o id s s':=by
 unfold Sim.AA;rw[h.rd]
def EL.AP{E E':Env}(h:EL E E')(o:Ao)(s:St):Sim.AP E o s=Sim.AP E' o s:=by
 unfold Sim.AP;rw[h.rd]
def EL.Bn{E E':Env}(h:EL E E')(o:Ao)(id:Nat)(s r:St)(hr:Bn E o id s=some r):Sim.Bn E' o id s=some r:=by
 have hgo:∀x,(match qal E (Sim.rd E s.fr) s.H id o.op with
   |some (v,H)=>some (⟨match o.dst with|some t=>s.fr.set t v|none=>s.fr,H⟩:St)
   |none=>none)=some x->(match qal E' (Sim.rd E' s.fr) s.H id o.op with
   |some (v,H)=>some (⟨match o.dst with|some t=>s.fr.set t v|none=>s.fr,H⟩:St)
   |none=>none)=some x:=by
  intro x hx;split at hx
  ·rename_i v H he;rw[<-h.rd,h.opD _ _ _ _ _ he];exact hx
  ·cases hx
 simp only[Sim.Bn]at hr⊢;split at hr
 ·exact hgo _ hr
 ·split at hr
  ·split at hr
   ·rename_i hw;simp only[hw,if_true];exact hgo _ hr
   ·rename_i hw;simp only[hw,if_false,zzg];exact hr
  ·exact hr
  ·cases hr
def EL.opsD{E E':Env}(h:EL E E'):∀(ops:CF Ao) (bf:Cy) (acc:CF (Cy×Cy)) (id:Nat) (s r:St),qbu E ops bf acc id s=some r->qbu E' ops bf acc id s=some r
 |[],_,_,_,_,_,hr=>hr
 |o::l,bf,acc,id,s,r,hr=>by
  simp only[qbu]at hr⊢;split at hr
  ·rename_i s' hs;rw[h.Bn _ _ _ _ hs];simp only[h.AA,h.AP]at hr;split at hr
   ·rename_i hp;simp only[hp,if_true];exact h.opsD l _ _ _ _ _ hr
   ·cases hr
  ·cases hr
def EL.A7{E E':Env}(h:EL E E')(ops:CF Ao)(bf kill:Cy)(s r:St)(hr:qc4 E ops bf kill s=some r):qc4 E' ops bf kill s=some r:=by
 unfold qc4 at hr⊢;split at hr
 ·rename_i he;rw[h.opsD _ _ _ _ _ _ he];exact hr
 ·cases hr
def LL(lp lp':(St->Res)->St->Res):Prop:=∀f f' s r,(∀s r,f s=some r->f' s=some r)->lp f s=some r->lp' f' s=some r
def qB0{evA evA' evX evX':Nat->St->Res}(hA:∀b s r,evA b s=some r->evA' b s=some r)(hX:∀b s r,evX b s=some r->evX' b s=some r)(fr:Fr)(o:Nat)(ps:Cy)
  {y y':Nat->Cu->CP->CB} (hy:YL y y'):YL (qda evA evX fr o ps y) (qda evA' evX' fr o ps y'):=by
 intro o' args H r h;unfold qda at h⊢;split at h
 ·rename_i ho;rw[if_pos ho];split at h
  ·rename_i hl;rw[if_pos hl];split at h
   ·rename_i h1;try rw[h1]
    try simp only
    split at h
    ·rename_i s1 h2;rw[hA _ _ _ h2];try simp only
     split at h
     ·rename_i h3;try rw[h3]
      try simp only
      split at h
      ·rename_i e s2 h4;rw[hX _ _ _ h4];exact h
      ·cases h
     ·cases h
    ·cases h
   ·cases h
  ·cases h
 ·rename_i ho;rw[if_neg ho];exact hy _ _ _ _ h
def EL.code{E E':Env}(h:EL E E'){lp lp':(St->Res)->St->Res}(hl:LL lp lp'):∀(c:PC) (base:Nat) (s:St) (r:Ex×St),qah E lp base c s=some r->qah E' lp' base c s=some r:=by
 intro c;induction c with
 |skip=>exact λbase s r hr=>hr
 |reg ops kill=>
  intro base s r hr;simp only[qah]at hr⊢;split at hr
  ·rename_i he;rw[h.reg _ _ _ _ he];exact hr
  ·cases hr
 |A7 ops bf kill=>
  intro base s r hr;simp only[qah]at hr⊢;split at hr
  ·rename_i he;rw[h.A7 _ _ _ _ _ he];exact hr
  ·cases hr
 |seq a b iha ihb=>
  intro base s r hr;simp only[qah]at hr⊢;split at hr
  ·rename_i s' he;rw[iha _ _ _ he];exact ihb _ _ _ hr
  ·rename_i hn;cases ha:qah E lp base a s with
   |none=>rw[ha]at hr;cases hr
   |some x=>
    rw[iha _ _ _ ha,<-ha];obtain⟨e,s'⟩:=x;cases e with
    |norm=>exact absurd ha (hn s')
    |exit id=>rw[ha];rw[ha]at hr;exact hr
    |ret=>rw[ha];rw[ha]at hr;exact hr
 |cond c x y ihx ihy=>
  intro base s r hr;simp only[qah]at hr⊢;rw[<-h.rd];split at hr
  ·rename_i hc;exact ihx _ _ _ hr
  ·rename_i hc;exact ihy _ _ _ hr
  ·cases hr
 |block id x ih=>
  intro base s r hr;simp only[qah]at hr⊢;cases hx:qah E lp base x s with
  |none=>rw[hx]at hr;cases hr
  |some v=>rw[hx]at hr;rw[ih _ _ _ hx];exact hr
 |loop live x ih=>
  intro base s r hr;simp only[qah]at hr⊢;exact hl _ _ _ _ (λs r hs=>ih _ _ _ hs) hr
 |rng f g ps live a x iha ihx=>
  intro base s r hr;simp only[qah]at hr⊢;rw[<-h.rd];split at hr
  ·rename_i n caps h1 h2;split at hr
   ·rename_i v H' he;rw[h.it _ _ (qB0 (λb s r hs=>iha b s r hs) (λb s r hs=>ihx b s r hs) _ _ _ h.yld) _ _ _ _ he]
    exact hr
   ·cases hr
  ·cases hr
 |exit id=>exact λbase s r hr=>hr
 |ret=>exact λbase s r hr=>hr
 |bad=>exact λbase s r hr=>hr
def EL.Bo{E E':Env}(h:EL E E')(gs:Cu)(H:CP)(r:CP)(hr:Bo E gs H=some r):Sim.Bo E' gs H=some r:=by
 unfold Sim.Bo at hr⊢;split at hr
 ·exact hr
 ·exact hr
 ·split at hr
  ·rename_i hd;rw[h.dok]at hd;split at hr
   ·rename_i he;simp only[hd,if_true,h.ref _ _ _ _ he];exact hr
   ·cases hr
  ·cases hr
 ·cases hr
def EL.fn{E E':Env}(h:EL E E'){lp lp':(St->Res)->St->Res}(hl:LL lp lp')(F:PF)(args:Cu)(H:CP)(r:PV×CP)(hr:qbb E lp F args H=some r):qbb E' lp' F args H=some r:=by
 unfold qbb at hr⊢;split at hr
 ·rename_i ha;rw[if_pos ha];split at hr
  ·rename_i s hx;rw[h.code hl _ _ _ _ hx];simp only;split at hr
   ·rename_i H' hg;rw[h.Bo _ _ _ hg];exact hr
   ·cases hr
  ·rename_i s hx;rw[h.code hl _ _ _ _ hx];simp only;split at hr
   ·rename_i H' hg;rw[h.Bo _ _ _ hg];exact hr
   ·cases hr
  ·cases hr
 ·cases hr
def qtD(n:Nat):LL (lpN n) (lpN (n+1)):=by
 induction n with
 |zero=>intro f f' s r _ h;cases h
 |succ n ih=>
  intro f f' s r hf h;rw[lpN]at h⊢;split at h
  ·rename_i s' hs;rw[hf _ _ hs];exact ih _ _ _ _ hf h
  ·rename_i hn;cases hs:f s with
   |none=>rw[hs]at h;cases h
   |some v=>
    rw[hf _ _ hs];rw[hs]at h;obtain⟨e,s'⟩:=v;cases e with
    |norm=>exact absurd hs (hn s')
    |exit id=>exact h
    |ret=>exact h
def qp3(n:Nat):LL (lpN n) (lpN n):=by
 induction n with
 |zero=>intro f f' s r _ h;cases h
 |succ n ih=>
  intro f f' s r hf h;rw[lpN]at h⊢;split at h
  ·rename_i s' hs;rw[hf _ _ hs];exact ih _ _ _ _ hf h
  ·rename_i hn;cases hs:f s with
   |none=>rw[hs]at h;cases h
   |some v=>
    rw[hf _ _ hs];rw[hs]at h;obtain⟨e,s'⟩:=v;cases e with
    |norm=>exact absurd hs (hn s')
    |exit id=>exact h
    |ret=>exact h
def qtE{n m:Nat}(h:n<=m):LL (lpN n) (lpN m):=by
 obtain⟨k,rfl⟩:=Nat.exists_eq_add_of_le h;induction k with
 |zero=>exact qp3 n
 |succ k ih=>
  intro f f' s r hf h;exact qtD (n+k) _ _ _ _ hf (ih (by omega) _ _ _ _ (λ_ _ h=>h) h)
def qAs(n:Nat):LL (lpN n) lpI:=λ_ f' s r hf h=>(qnH f' s r).2 ⟨n,qtE (zzt n) _ _ _ _ hf h⟩
def Bb(T:Tab)(n:Nat)(Y:Nat->Cu->CP->CB):Env:=⟨T.G,qhs T n,qcF T n,Y,itN T n,T.dok⟩
def qb3(T:Tab)(n:Nat):Env:=Bb T n noY
def qdG(T:Tab)(n:Nat)(Y:Nat->Cu->CP->CB)(f:Nat)(args:Cu)(H:CP):itN T (n+1) Y f args H=match T.F f with
  |some F=>match qbb (Bb T n Y) (lpN n) F args H with
   |some (v,H')=>some (gcV H.length v H')
   |none=>none
  |none=>T.R f args H:=by rw[itN];rfl
def qBV(T:Tab)(n f:Nat)(args:Cu)(H:CP):qhs T (n+1) f args H=match T.F f with
  |some F=>match qbb (qb3 T n) (lpN n) F args H with
   |some (v,H')=>some (gcV H.length v H')
   |none=>none
  |none=>T.R f args H:=qdG T n noY f args H
def qiD(T:Tab)(n f:Nat)(args:Ct):qcF T (n+1) f args=match T.F f with
  |some F=>match qbb (qb3 T n) (lpN n) F (args.map .d) []with
   |some (v,H')=>AJ H' v
   |none=>none
  |none=>T.X f args:=by rw[qcF];rfl
def qxM(T:Tab):∀n Y Y',YL Y Y'->EL (Bb T n Y) (Bb T n Y')/\EL (Bb T n Y) (Bb T (n+1) Y'):=by
 intro n;induction n with
 |zero=>
  intro Y Y' hY;exact⟨⟨rfl,λ_ _ _ _ h=>h,λ_ _ _ h=>h,hY,λ_ _ _ _ _ _ _ h=>by simp[Bb,itN]at h,rfl⟩,
   ⟨rfl,λ_ _ _ _ h=>by simp[Bb,qhs,itN]at h,λ_ _ _ h=>by simp[Bb,qcF]at h,hY,λ_ _ _ _ _ _ _ h=>by simp[Bb,itN]at h,rfl⟩⟩
 |succ n ih=>
  intro Y Y' hY;have hit:∀Y Y',YL Y Y'->∀f a H r,itN T (n+1) Y f a H=some r->itN T (n+1) Y' f a H=some r:=by
   intro Y Y' hY f a H r h;rw[qdG]at h⊢;split at h
   ·rename_i F hF;split at h
    ·rename_i v H' he;rw[EL.fn (ih Y Y' hY).1 (qp3 n) _ _ _ _ he];exact h
    ·cases h
   ·exact h
  have hup:∀Y Y',YL Y Y'->∀f a H r,itN T (n+1) Y f a H=some r->itN T (n+1+1) Y' f a H=some r:=by
   intro Y Y' hY f a H r h;rw[qdG]at h⊢;split at h
   ·rename_i F hF;split at h
    ·rename_i v H' he;rw[EL.fn (ih Y Y' hY).2 (qtD n) _ _ _ _ he];exact h
    ·cases h
   ·exact h
  refine⟨⟨rfl,λ_ _ _ _ h=>h,λ_ _ _ h=>h,hY,hit,rfl⟩,⟨rfl,λf a H r h=>hup noY noY (YL.refl _) f a H r h,λf a r h=>?_,hY,hup,rfl⟩⟩
  change qcF T (n+1) f a=some r at h
  change qcF T (n+1+1) f a=some r
  rw[qiD]at h⊢;split at h
  ·rename_i F hF;split at h
   ·rename_i v H' he;have he':qbb (qb3 T (n+1)) (lpN (n+1)) F (a.map .d) []=some (v,H'):=EL.fn (ih noY noY (YL.refl _)).2 (qtD n) _ _ _ _ he
    rw[he'];exact h
   ·cases h
  ·exact h
def EL.trans{A B C:Env}(h:EL A B)(k:EL B C):EL A C:=
 ⟨h.G.trans k.G,λ_f _a _H _r x=>k.ref _ _ _ _ (h.ref _ _ _ _ x),λ_f _a _r x=>k.val _ _ _ (h.val _ _ _ x),λ_o _a _H _r x=>k.yld _ _ _ _ (h.yld _ _ _ _ x),λ_Y _Y' hY _f _a _H _r x=>k.it _ _ (YL.refl _) _ _ _ _ (h.it _ _ hY _ _ _ _ x),h.dok.trans k.dok⟩
def qkL(T:Tab){n m:Nat}(h:n<=m){Y Y':Nat->Cu->CP->CB}(hY:YL Y Y'):EL (Bb T n Y) (Bb T m Y'):=by
 obtain⟨k,rfl⟩:=Nat.exists_eq_add_of_le h;induction k with
 |zero=>exact (qxM T n Y Y' hY).1
 |succ k ih=>exact EL.trans (ih (by omega)) (qxM T (n+k) Y' Y' (YL.refl _)).2
def qGh(T:Tab){n m:Nat}(h:n<=m):EL (qb3 T n) (qb3 T m):=qkL T h (YL.refl _)
noncomputable def Tab.it(T:Tab)(Y:Nat->Cu->CP->CB)(f:Nat)(args:Cu)(H:CP):CB:=qnF λn=>itN T n Y f args H
noncomputable def Tab.ref(T:Tab)(f:Nat)(args:Cu)(H:CP):CB:=T.it noY f args H
noncomputable def Tab.val(T:Tab)(f:Nat)(args:Ct):Cz:=qnF λn=>qcF T n f args
def qpR(T:Tab)(Y:Nat->Cu->CP->CB)(f:Nat)(args:Cu)(H:CP)(r:PV×CP):T.it Y f args H=some r↔∃n,itN T n Y f args H=some r:=
 qtA (λn r h=>(qkL T (Nat.le_succ n) (YL.refl noY)).it _ _ (YL.refl Y) f args H r h) r
def qqz(T:Tab)(f:Nat)(args:Cu)(H:CP)(r:PV×CP):T.ref f args H=some r↔∃n,qhs T n f args H=some r:=qpR T noY f args H r
def qlq(T:Tab)(f:Nat)(args:Ct)(r:PV×CG):T.val f args=some r↔∃n,qcF T n f args=some r:=
 qtA (λn r h=>(qGh T (Nat.le_succ n)).val f args r h) r
noncomputable def Tab.Bb(T:Tab)(Y:Nat->Cu->CP->CB):Env:=⟨T.G,T.ref,T.val,Y,T.it,T.dok⟩
noncomputable def Tab.env(T:Tab):Env:=T.Bb noY
def qxL(T:Tab)(n:Nat){Y Y':Nat->Cu->CP->CB}(hY:YL Y Y'):EL (Bb T n Y) (T.Bb Y'):=
 ⟨rfl,λf a H r h=>(qqz T f a H r).2 ⟨n,h⟩,λf a r h=>(qlq T f a r).2 ⟨n,h⟩,hY,λ_Y Y' hY f a H r h=>(qpR T Y' f a H r).2 ⟨n,(qkL T (zzt n) (YL.refl noY)).it _ _ hY f a H r h⟩,rfl⟩
def qGg(T:Tab)(n:Nat):EL (qb3 T n) T.env:=qxL T n (YL.refl _)
structure YC (Yn:Nat->Nat->List PV->Heap->Option (PV×Heap)) (Y:Nat->List PV->Heap->Option (PV×Heap)):Prop where
 mono:∀n m,n<=m->YL (Yn n) (Yn m)
 fin:∀o a H r,Y o a H=some r->∃n,Yn n o a H=some r
structure Ch (En:Nat->Env) (ln:Nat->(St->Res)->St->Res) (E:Env) (l:(St->Res)->St->Res):Prop where
 mono:∀n m,n<=m->EL (En n) (En m)
 lmono:∀n m,n<=m->LL (ln n) (ln m)
 G:∀n,(En n).G=E.G
 ref:∀f a H r,E.ref f a H=some r->∃n,(En n).ref f a H=some r
 val:∀f a r,E.val f a=some r->∃n,(En n).val f a=some r
 yld:∀o a H r,E.yld o a H=some r->∃n,(En n).yld o a H=some r
 it:∀Yn Y,YC Yn Y->∀f a H r,E.it Y f a H=some r->∃n,(En n).it (Yn n) f a H=some r
 dok:∀n,(En n).dok=E.dok
 lp:∀(fn:Nat->St->Res) (f:St->Res),(∀n m,n<=m->∀s r,fn n s=some r->fn m s=some r)->(∀s r,f s=some r->∃n,fn n s=some r)->∀s r,l f s=some r->∃n,ln n (fn n) s=some r
section
variable {En:Nat->Env}{ln:Nat->(St->Res)->St->Res}{E:Env}{l:(St->Res)->St->Res}
def Ch.rd(h:Ch En ln E l)(n:Nat)(fr:Fr):Sim.rd (En n) fr=Sim.rd E fr:=by
 funext x;cases x<;>simp[Sim.rd,h.G]
def qtZ(h:Ch En ln E l)(ρ:Ab->PV)(H:CP)(id:Nat)(op:IOp)(r:PV×CP)(hr:qaa E ρ H id op=some r):∃n,qaa (En n) ρ H id op=some r:=by
 cases op with
 |call m f args=>
  match m with
  |0=>
   simp only[qaa]at hr;split at hr
   ·split at hr
    ·rename_i hp _ _ _ hv;obtain⟨n,hn⟩:=h.val _ _ _ hv;exact⟨n,by simp only[qaa,hp,hn];exact hr⟩
    ·cases hr
   ·cases hr
  |1=>
   simp only[qaa]at hr;split at hr
   ·split at hr
    ·rename_i hp _ _ _ _ hv;obtain⟨n,hn⟩:=h.val _ _ _ hv;exact⟨n,by simp only[qaa,hp,hn];exact hr⟩
    ·cases hr
   ·cases hr
  |m+2=>
   simp only[qaa]at hr;obtain⟨n,hn⟩:=h.ref _ _ _ _ hr;exact⟨n,by simp only[qaa];exact hn⟩
 |BH x args=>
  simp only[qaa]at hr;split at hr
  ·rename_i hx;split at hr
   ·rename_i hq;split at hr
    ·rename_i hv;obtain⟨n,hn⟩:=h.val _ _ _ hv;exact⟨n,by simp only[qaa,hx,hq,hn];exact hr⟩
    ·cases hr
   ·rename_i hq;obtain⟨n,hn⟩:=h.ref _ _ _ _ hr;exact⟨n,by simp only[qaa,hx,hq];exact hn⟩
  ·rename_i hx;split at hr
   ·rename_i hq;split at hr
    ·rename_i hv;obtain⟨n,hn⟩:=h.val _ _ _ hv;exact⟨n,by simp only[qaa,hx,hq,hn];exact hr⟩
    ·cases hr
   ·rename_i hq;obtain⟨n,hn⟩:=h.ref _ _ _ _ hr;exact⟨n,by simp only[qaa,hx,hq];exact hn⟩
  ·rename_i hx;obtain⟨n,hn⟩:=h.yld _ _ _ _ hr;exact⟨n,by simp only[qaa,hx];exact hn⟩
  ·cases hr
 |invk tab x args=>
  simp only[qaa]at hr;split at hr
  ·rename_i hx;split at hr
   ·rename_i ht;split at hr
    ·rename_i hp;split at hr
     ·rename_i hv;obtain⟨n,hn⟩:=h.val _ _ _ hv;exact⟨n,by simp only[qaa,hx,ht,hp,hn];exact hr⟩
     ·cases hr
    ·cases hr
   ·rename_i ht;obtain⟨n,hn⟩:=h.ref _ _ _ _ hr;refine⟨n,?_⟩;simp only[qaa,hx,ht];exact hn
   ·cases hr
  ·cases hr
 |_=>exact⟨0,hr⟩
def qqj(h:Ch En ln E l):∀(ops:CF Ao) (id:Nat) (s r:St),qaM E ops id s=some r->∃n,qaM (En n) ops id s=some r
 |[],_,_,_,hr=>⟨0,hr⟩
 |o::l,id,s,r,hr=>by
  have hgo:∀x,(match qaa E (rd E s.fr) s.H id o.op with
    |some (v,H)=>qaM E l (if o.op.adds then id+1 else id) ⟨match o.dst with|some t=>s.fr.set t v|none=>s.fr,H⟩
    |none=>none)=some x->∃n,(match qaa (En n) (rd (En n) s.fr) s.H id o.op with
    |some (v,H)=>qaM (En n) l (if o.op.adds then id+1 else id) ⟨match o.dst with|some t=>s.fr.set t v|none=>s.fr,H⟩
    |none=>none)=some x:=by
   intro x hx;split at hx
   ·rename_i v H he;obtain⟨n,hn⟩:=qtZ h _ _ _ _ _ he;obtain⟨m,hm⟩:=qqj h l _ _ _ hx;refine⟨max n m,?_⟩;rw[h.rd,(h.mono _ _ (Nat.le_max_left n m)).op _ _ _ _ _ hn];exact (h.mono _ _ (Nat.le_max_right n m)).ops _ _ _ _ hm
   ·cases hx
  simp only[qaM]at hr⊢;split at hr
  ·exact hgo _ hr
  ·split at hr
   ·split at hr
    ·rename_i hw;simp only[hw,if_true];exact hgo _ hr
    ·rename_i hw;simp only[hw,if_false,zzg];exact qqj h l _ _ _ hr
   ·exact qqj h l _ _ _ hr
   ·cases hr
def qPU(h:Ch En ln E l)(ops:CF Ao)(kill:Cy)(s r:St)(hr:qcu E ops kill s=some r):∃n,qcu (En n) ops kill s=some r:=by
 unfold qcu at hr;split at hr
 ·rename_i he;obtain⟨n,hn⟩:=qqj h _ _ _ _ he;exact⟨n,by unfold qcu;rw[hn];exact hr⟩
 ·cases hr
def qOS(h:Ch En ln E l)(ρ:Ab->PV)(H:CP)(id:Nat)(op:IOp)(r:PV×CP)(hr:qal E ρ H id op=some r):∃n,qal (En n) ρ H id op=some r:=by
 unfold qal at hr;split at hr
 ·rename_i hk;obtain⟨n,hn⟩:=qtZ h _ _ _ _ _ hr;exact⟨n,by unfold qal;rw[if_pos hk];exact hn⟩
 ·rename_i hk;split at hr
  ·rename_i hb;split at hr
   ·rename_i v H' he;obtain⟨n,hn⟩:=qtZ h _ _ _ _ _ he;exact⟨n,by unfold qal;rw[if_neg hk,if_pos hb,hn];exact hr⟩
   ·cases hr
  ·cases hr
def qQF(h:Ch En ln E l)(o:Ao)(id:Nat)(s r:St)(hr:Bn E o id s=some r):∃n,Bn (En n) o id s=some r:=by
 have hgo:∀x,(match qal E (rd E s.fr) s.H id o.op with
   |some (v,H)=>some (⟨match o.dst with|some t=>s.fr.set t v|none=>s.fr,H⟩:St)
   |none=>none)=some x->∃n,(match qal (En n) (rd (En n) s.fr) s.H id o.op with
   |some (v,H)=>some (⟨match o.dst with|some t=>s.fr.set t v|none=>s.fr,H⟩:St)
   |none=>none)=some x:=by
  intro x hx;split at hx
  ·rename_i v H he;obtain⟨n,hn⟩:=qOS h _ _ _ _ _ he;exact⟨n,by rw[h.rd,hn];exact hx⟩
  ·cases hx
 simp only[Bn]at hr⊢;split at hr
 ·exact hgo _ hr
 ·split at hr
  ·split at hr
   ·rename_i hw;simp only[hw,if_true];exact hgo _ hr
   ·rename_i hw;simp only[hw,if_false,zzg];exact⟨0,hr⟩
  ·exact⟨0,hr⟩
  ·cases hr
def qBe(h:Ch En ln E l):∀(ops:CF Ao) (bf:Cy) (acc:CF (Cy×Cy)) (id:Nat) (s r:St),qbu E ops bf acc id s=some r->∃n,qbu (En n) ops bf acc id s=some r
 |[],_,_,_,_,_,hr=>⟨0,hr⟩
 |o::l,bf,acc,id,s,r,hr=>by
  simp only[qbu]at hr;split at hr
  ·rename_i s' hs;obtain⟨n,hn⟩:=qQF h _ _ _ _ hs;have hw:∀n,Sim.AA (En n) o id s s'=Sim.AA E o id s s':=λn=>by unfold Sim.AA;rw[h.rd]
   have ht:∀n,Sim.AP (En n) o s=Sim.AP E o s:=λn=>by unfold Sim.AP;rw[h.rd]
   split at hr
   ·rename_i hp;obtain⟨m,hm⟩:=qBe h l _ _ _ _ _ hr;refine⟨max n m,?_⟩;simp only[qbu];rw[(h.mono _ _ (Nat.le_max_left n m)).Bn _ _ _ _ hn];simp only[hw,ht,hp,if_true];exact (h.mono _ _ (Nat.le_max_right n m)).opsD _ _ _ _ _ _ hm
   ·cases hr
  ·cases hr
def qPR(h:Ch En ln E l)(ops:CF Ao)(bf kill:Cy)(s r:St)(hr:qc4 E ops bf kill s=some r):∃n,qc4 (En n) ops bf kill s=some r:=by
 unfold qc4 at hr;split at hr
 ·rename_i he;obtain⟨n,hn⟩:=qBe h _ _ _ _ _ _ he;exact⟨n,by unfold qc4;rw[hn];exact hr⟩
 ·cases hr
def qPZ{an xn:Nat->Nat->St->Res}{a x:Nat->St->Res}(ha:∀b s r,a b s=some r->∃n,an n b s=some r)(hx:∀b s r,x b s=some r->∃n,xn n b s=some r)
  (ma:∀n m,n<=m->∀b s r,an n b s=some r->an m b s=some r) (mx:∀n m,n<=m->∀b s r,xn n b s=some r->xn m b s=some r) (fr:Fr) (o:Nat) (ps:Cy)
  {yn:Nat->Nat->Cu->CP->CB} {y:Nat->Cu->CP->CB} (hy:YC yn y):YC (λn=>qda (an n) (xn n) fr o ps (yn n)) (qda a x fr o ps y):=by
 refine⟨λn m hnm=>qB0 (ma n m hnm) (mx n m hnm) fr o ps (hy.mono n m hnm),?_⟩
 intro o' args H r h;unfold qda at h;split at h
 ·rename_i ho;split at h
  ·rename_i hl;split at h
   ·rename_i h1;split at h
    ·rename_i s1 h2;split at h
     ·rename_i h3;split at h
      ·rename_i e s2 h4;obtain⟨n,hn⟩:=ha _ _ _ h2;obtain⟨m,hm⟩:=hx _ _ _ h4;refine⟨max n m,?_⟩;unfold qda;rw[if_pos ho,if_pos hl,h1];simp only;rw[ma _ _ (Nat.le_max_left n m) _ _ _ hn];simp only;rw[h3];simp only;rw[mx _ _ (Nat.le_max_right n m) _ _ _ hm];exact h
      ·cases h
     ·cases h
    ·cases h
   ·cases h
  ·cases h
 ·rename_i ho;obtain⟨n,hn⟩:=hy.fin _ _ _ _ h;exact⟨n,by unfold qda;rw[if_neg ho];exact hn⟩
def Ch.cmono(h:Ch En ln E l){n m:Nat}(hnm:n<=m)(c:PC)(base:Nat)(s:St)(r:Ex×St)(hr:qah (En n) (ln n) base c s=some r):qah (En m) (ln m) base c s=some r:=
 (h.mono n m hnm).code (h.lmono n m hnm) c base s r hr
def qxi(h:Ch En ln E l):∀(c:PC) (base:Nat) (s:St) (r:Ex×St),qah E l base c s=some r->∃n,qah (En n) (ln n) base c s=some r:=by
 intro c;induction c with
 |skip=>exact λbase s r hr=>⟨0,hr⟩
 |reg ops kill=>
  intro base s r hr;simp only[qah]at hr⊢;split at hr
  ·rename_i he;obtain⟨n,hn⟩:=qPU h _ _ _ _ he;exact⟨n,by rw[hn];exact hr⟩
  ·cases hr
 |A7 ops bf kill=>
  intro base s r hr;simp only[qah]at hr⊢;split at hr
  ·rename_i he;obtain⟨n,hn⟩:=qPR h _ _ _ _ _ he;exact⟨n,by rw[hn];exact hr⟩
  ·cases hr
 |seq a b iha ihb=>
  intro base s r hr;simp only[qah]at hr;cases ha:qah E l base a s with
  |none=>rw[ha]at hr;cases hr
  |some x=>
   obtain⟨n,hn⟩:=iha _ _ _ ha;rw[ha]at hr;obtain⟨e,s'⟩:=x;cases e with
   |norm=>
    obtain⟨m,hm⟩:=ihb _ _ _ hr;refine⟨max n m,?_⟩;simp only[qah];rw[h.cmono (Nat.le_max_left n m) _ _ _ _ hn];exact h.cmono (Nat.le_max_right n m) _ _ _ _ hm
   |exit id=>exact⟨n,by simp only[qah,hn];exact hr⟩
   |ret=>exact⟨n,by simp only[qah,hn];exact hr⟩
 |cond c x y ihx ihy=>
  intro base s r hr;simp only[qah]at hr⊢;split at hr
  ·rename_i hc;obtain⟨n,hn⟩:=ihx _ _ _ hr;exact⟨n,by rw[h.rd,hc];exact hn⟩
  ·rename_i hc;obtain⟨n,hn⟩:=ihy _ _ _ hr;exact⟨n,by rw[h.rd,hc];exact hn⟩
  ·cases hr
 |block id x ih=>
  intro base s r hr;simp only[qah]at hr⊢;cases hx:qah E l base x s with
  |none=>rw[hx]at hr;cases hr
  |some v=>
   obtain⟨n,hn⟩:=ih _ _ _ hx;exact⟨n,by rw[hn];rw[hx]at hr;exact hr⟩
 |loop live x ih=>
  intro base s r hr;simp only[qah]at hr⊢;exact h.lp (λn s=>qah (En n) (ln n) base x (gc live base s)) _ (λn m hnm s r hs=>h.cmono hnm _ _ _ _ hs) (λs r hs=>ih _ _ _ hs) s r hr
 |rng f g ps live a x iha ihx=>
  intro base s r hr;simp only[qah]at hr⊢;split at hr
  ·rename_i k caps h1 h2;split at hr
   ·rename_i v H' he;obtain⟨n,hn⟩:=h.it _ _ (qPZ (λb s r hs=>iha b s r hs) (λb s r hs=>ihx b s r hs) (λn m hnm b s r hs=>h.cmono hnm _ _ _ _ hs) (λn m hnm b s r hs=>h.cmono hnm _ _ _ _ hs) _ _ _
     ⟨λn m hnm=>(h.mono n m hnm).yld,h.yld⟩) _ _ _ _ he
    refine⟨n,?_⟩;rw[h.rd,h1,h2];simp only;rw[hn];exact hr
   ·cases hr
  ·cases hr
 |exit id=>exact λbase s r hr=>⟨0,hr⟩
 |ret=>exact λbase s r hr=>⟨0,hr⟩
 |bad=>exact λbase s r hr=>⟨0,hr⟩
def qB2(h:Ch En ln E l)(gs:Cu)(H r:CP)(hr:Bo E gs H=some r):∃n,Bo (En n) gs H=some r:=by
 unfold Bo at hr;split at hr
 ·exact⟨0,by unfold Bo;exact hr⟩
 ·exact⟨0,by unfold Bo;exact hr⟩
 ·split at hr
  ·rename_i hd;split at hr
   ·rename_i he;obtain⟨n,hn⟩:=h.ref _ _ _ _ he;have hd':=hd
    rw[<-h.dok n]at hd';exact⟨n,by unfold Bo;simp only[hd',if_true,hn];exact hr⟩
   ·cases hr
  ·cases hr
 ·cases hr
def qsz(h:Ch En ln E l)(F:PF)(args:Cu)(H:CP)(r:PV×CP)(hr:qbb E l F args H=some r):∃n,qbb (En n) (ln n) F args H=some r:=by
 unfold qbb at hr;split at hr
 ·rename_i ha;split at hr
  ·rename_i s hx;split at hr
   ·rename_i H' hg;obtain⟨n,hn⟩:=qxi h _ _ _ _ hx;obtain⟨m,hm⟩:=qB2 h _ _ _ hg;refine⟨max n m,?_⟩;unfold qbb;rw[if_pos ha,h.cmono (Nat.le_max_left n m) _ _ _ _ hn];simp only;rw[(h.mono _ _ (Nat.le_max_right n m)).Bo _ _ _ hm];exact hr
   ·cases hr
  ·rename_i s hx;split at hr
   ·rename_i H' hg;obtain⟨n,hn⟩:=qxi h _ _ _ _ hx;obtain⟨m,hm⟩:=qB2 h _ _ _ hg;refine⟨max n m,?_⟩;unfold qbb;rw[if_pos ha,h.cmono (Nat.le_max_left n m) _ _ _ _ hn];simp only;rw[(h.mono _ _ (Nat.le_max_right n m)).Bo _ _ _ hm];exact hr
   ·cases hr
  ·cases hr
 ·cases hr
end
def qAt(m:Nat):∀(fn:Nat->St->Res) (f:St->Res),(∀n m,n<=m->∀s r,fn n s=some r->fn m s=some r)->(∀s r,f s=some r->∃n,fn n s=some r)->∀s r,lpN m f s=some r->∃n,lpN m (fn n) s=some r:=by
 induction m with
 |zero=>intro fn f _ _ s r h;cases h
 |succ m ih=>
  intro fn f hm hf s r h;rw[lpN]at h;cases hs:f s with
  |none=>rw[hs]at h;cases h
  |some v=>
   obtain⟨n,hn⟩:=hf _ _ hs;rw[hs]at h;obtain⟨e,s'⟩:=v;cases e with
   |norm=>
    obtain⟨k,hk⟩:=ih fn f hm hf s' r h;refine⟨max n k,?_⟩;rw[lpN,hm _ _ (Nat.le_max_left n k) _ _ hn];exact qp3 m _ _ _ _ (hm _ _ (Nat.le_max_right n k)) hk
   |exit id=>exact⟨n,by rw[lpN,hn];exact h⟩
   |ret=>exact⟨n,by rw[lpN,hn];exact h⟩
def qHB(T:Tab):∀m Yn Y,YC Yn Y->∀f a H r,itN T m Y f a H=some r->∃n,itN T m (Yn n) f a H=some r:=by
 intro m;induction m with
 |zero=>intro Yn Y _ f a H r h;simp[itN]at h
 |succ m ih=>
  intro Yn Y hY f a H r h;rw[qdG]at h;split at h
  ·rename_i F hF;split at h
   ·rename_i v H' he;have hch:Ch (λn=>Bb T m (Yn n)) (λ_=>lpN m) (Bb T m Y) (lpN m):=
     ⟨λn k hnk=>qkL T (zzt m) (hY.mono n k hnk),λ_ _ _=>qp3 m,λ_=>rfl,λ_ _ _ _ h=>⟨0,h⟩,λ_ _ _ h=>⟨0,h⟩,hY.fin,λYn' Y' hY' f a H r h=>ih Yn' Y' hY' f a H r h,λ_=>rfl,qAt m⟩
    obtain⟨n,hn⟩:=qsz hch _ _ _ _ he;exact⟨n,by rw[qdG,hF];simp only[hn];exact h⟩
   ·cases h
  ·rename_i hF;exact⟨0,by rw[qdG,hF];exact h⟩
def qxa(T:Tab){Yn:Nat->Nat->Cu->CP->CB}{Y:Nat->Cu->CP->CB}(hY:YC Yn Y):Ch (λn=>Bb T n (Yn n)) lpN (T.Bb Y) lpI:=by
 refine⟨λn m hnm=>qkL T hnm (hY.mono n m hnm),λn m hnm=>qtE hnm,λ_=>rfl,λf a H r h=>(qqz T f a H r).1 h,λf a r h=>(qlq T f a r).1 h,hY.fin,?_,λ_=>rfl,?_⟩
 ·intro Yn' Y' hY' f a H r h;obtain⟨m,hm⟩:=(qpR T Y' f a H r).1 h;obtain⟨n,hn⟩:=qHB T m Yn' Y' hY' f a H r hm;exact⟨max m n,(qkL T (Nat.le_max_left m n) (YL.refl noY)).it _ _ (hY'.mono _ _ (Nat.le_max_right m n)) f a H r hn⟩
 ·intro fn f hm hf s r h;obtain⟨m,hk⟩:=(qnH f s r).1 h;obtain⟨n,hn⟩:=qAt m fn f hm hf s r hk;exact⟨max m n,qtE (Nat.le_max_left m n) _ _ _ _ (hm _ _ (Nat.le_max_right m n)) hn⟩
def qw9(Y:Nat->Cu->CP->CB):YC (λ_=>Y) Y:=⟨λ_ _ _=>YL.refl Y,λ_ _ _ _ h=>⟨0,h⟩⟩
def qDy(T:Tab){f:Nat}{F:PF}(hF:T.F f=some F)(args:Ct):T.val f args=match qbb T.env lpI F (args.map .d) []with
  |some (v,H')=>AJ H' v
  |none=>none:=by
 apply Option.ext
 intro r;rw[qlq];constructor
 ·rintro⟨n,h⟩;cases n with
  |zero=>cases h
  |succ n=>
   rw[qiD,hF]at h;simp only at h;split at h
   ·rename_i v H' he;rw[(qGg T n).fn (qAs n) _ _ _ _ he];exact h
   ·cases h
 ·intro h;split at h
  ·rename_i v H' he;obtain⟨n,hn⟩:=qsz (qxa T (qw9 noY)) _ _ _ _ he;refine⟨n+1,?_⟩;rw[qiD,hF];simp only;have hn':qbb (qb3 T n) (lpN n) F (args.map .d) []=some (v,H'):=hn
   rw[hn'];exact h
  ·cases h
def qzb(T:Tab){f:Nat}{F:PF}(hF:T.F f=some F)(Y:Nat->Cu->CP->CB)(args:Cu)(H:CP):T.it Y f args H=match qbb (T.Bb Y) lpI F args H with
  |some (v,H')=>some (gcV H.length v H')
  |none=>none:=by
 apply Option.ext
 intro r;rw[qpR];constructor
 ·rintro⟨n,h⟩;cases n with
  |zero=>simp[itN]at h
  |succ n=>
   rw[qdG,hF]at h;simp only at h;split at h
   ·rename_i v H' he;rw[(qxL T n (YL.refl Y)).fn (qAs n) _ _ _ _ he];exact h
   ·cases h
 ·intro h;split at h
  ·rename_i v H' he;obtain⟨n,hn⟩:=qsz (qxa T (qw9 Y)) _ _ _ _ he;exact⟨n+1,by rw[qdG,hF];simp only[hn];exact h⟩
  ·cases h
def qPP(T:Tab){f:Nat}{F:PF}(hF:T.F f=some F)(args:Cu)(H:CP):T.ref f args H=match qbb T.env lpI F args H with
  |some (v,H')=>some (gcV H.length v H')
  |none=>none:=qzb T hF noY args H
def qBW(T:Tab){f:Nat}(hF:T.F f=none)(args:Cu)(H:CP):T.ref f args H=T.R f args H:=by
 apply Option.ext
 intro r;rw[qqz];constructor
 ·rintro⟨n,h⟩;cases n with
  |zero=>simp[qhs,itN]at h
  |succ n=>rw[qBV,hF]at h;exact h
 ·intro h;exact⟨1,by rw[qBV,hF];exact h⟩
def qvS(T:Tab){f:Nat}(hF:T.F f=none)(args:Ct):T.val f args=T.X f args:=by
 apply Option.ext
 intro r;rw[qlq];constructor
 ·rintro⟨n,h⟩;cases n with
  |zero=>cases h
  |succ n=>rw[qiD,hF]at h;exact h
 ·intro h;exact⟨1,by rw[qiD,hF];exact h⟩
