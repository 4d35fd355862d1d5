/- Part 3 of the proof. -/
import Derived.Test.YtmaaepdecdhmnaaGreatDoorB1
namespace Go.Sim
set_option maxRecDepth 100000
set_option maxHeartbeats 8000000
noncomputable def qmD{α:Type}(g:Nat→Option α):Option α :=
 open Classical in if h : ∃ n, (g n).isSome = true then g (Classical.choose h) else none
theorem qII{α:Type}{g:Nat→Option α}(hm:∀n r,g n=some r→g (n+1)=some r)(k:Nat):∀n r,g n=some r→g (n+k)=some r:=by
 induction k with
 |zero=>exact fun n r h=>h
 |succ k ih=>exact fun n r h=>hm _ _ (ih n r h)
theorem qxB{α:Type}{g:Nat→Option α}(hm:∀n r,g n=some r→g (n+1)=some r){n m:Nat}(h:n≤m){r:α}(hr:g n=some r):g m=some r:=by
 obtain⟨k,rfl⟩:=Nat.exists_eq_add_of_le h;exact qII hm k n r hr
theorem qsm{α:Type}{g:Nat→Option α}(hm:∀n r,g n=some r→g (n+1)=some r)(r:α):qmD g=some r↔∃n,g n=some r:=by
 unfold qmD;constructor
 ·intro h;split at h
  ·exact⟨_,h⟩
  ·cases h
 ·rintro⟨n,hn⟩;have h:∃n,(g n).isSome=true:=⟨n,by simp[hn]⟩
  rw[dif_pos h];obtain⟨x,hx⟩:=Option.isSome_iff_exists.1 (Classical.choose_spec h);have a:=qxB hm (Nat.le_max_left n (Classical.choose h)) hn
  have b:=qxB hm (Nat.le_max_right n (Classical.choose h)) hx
  rw[a]at b;rw[hx];exact b.symm
theorem qDs:∀(n:Nat) (f:St→Res) (s:St) (r:Ex×St),lpN n f s=some r→lpN (n+1) f s=some r:=by
 intro n;induction n with
 |zero=>intro f s r h;cases h
 |succ n ih =>
  intro f s r h;rw[lpN]at h;split at h
  ·rename_i s' hs;rw[lpN];simp only[hs];exact ih f s' r h
  ·rename_i hs;rw[lpN];split
   ·rename_i s' hs';exact absurd hs' (hs s')
   ·exact h
noncomputable def lpI(f:St→Res)(s:St):Res:=qmD fun n=>lpN n f s
theorem qmE(f:St→Res)(s:St)(r:Ex×St):lpI f s=some r↔∃n,lpN n f s=some r:=qsm (fun n r h=>qDs n f s r h) r
theorem qDq(f:St→Res)(s:St):lpI f s=match f s with|some (.norm,s')=>lpI f s'|r=>r:=by
 apply Option.ext
 intro r;rw[qmE];constructor
 ·rintro⟨n,h⟩;cases n with
  |zero=>cases h
  |succ n =>
   rw[lpN]at h;split at h
   ·rename_i s' hs;simp only[hs];rw[qmE];exact⟨n,h⟩
   ·rename_i hs;split
    ·rename_i s' hs';exact absurd hs' (hs s')
    ·exact h
 ·intro h;split at h
  ·rename_i s' hs;obtain⟨n,hn⟩:=(qmE f s' r).1 h;exact⟨n+1,by rw[lpN];simp only[hs];exact hn⟩
  ·rename_i hs;refine⟨1,?_⟩;rw[lpN];split
   ·rename_i s' hs';exact absurd hs' (hs s')
   ·exact h
def YL(Y Y':Nat→List PV→Heap→Option (PV×Heap)):Prop:=∀o a H r,Y o a H=some r→Y' o a H=some r
theorem YL.refl(Y:Nat→List PV→Heap→Option (PV×Heap)):YL Y Y:=fun _ _ _ _ h=>h
structure EL (E E':Env):Prop where
 G:E.G=E'.G
 ref:∀f a H r,E.ref f a H=some r→E'.ref f a H=some r
 val:∀f a r,E.val f a=some r→E'.val f a=some r
 yld:YL E.yld E'.yld
 it:∀Y Y',YL Y Y'→∀f a H r,E.it Y f a H=some r→E'.it Y' f a H=some r
 dok:E.dok=E'.dok
theorem EL.rd{E E':Env}(h:EL E E')(fr:Fr):rd E fr=rd E' fr:=by
 funext x;cases x<;>simp[Sim.rd,h.G]
theorem EL.op{E E':Env}(h:EL E E')(ρ:Rand→PV)(H:Heap)(id:Nat)(op:IOp)(r:PV×Heap)(hr:qaa E ρ H id op=some r):qaa E' ρ H id op=some r:=by
 cases op with
 |call m f args =>
  match m with
  | 0 =>
   simp only[qaa]at hr⊢;split at hr
   ·split at hr
    ·rename_i hv;rw[h.val _ _ _ hv];exact hr
    ·cases hr
   ·cases hr
  | 1 =>
   simp only[qaa]at hr⊢;split at hr
   ·split at hr
    ·rename_i hv;rw[h.val _ _ _ hv];exact hr
    ·cases hr
   ·cases hr
  |n+2=>simp only[qaa]at hr⊢;exact h.ref _ _ _ _ hr
 |callv x args =>
  simp only[qaa]at hr⊢;split at hr
  ·split at hr
   ·split at hr
    ·rename_i hv;rw[h.val _ _ _ hv];exact hr
    ·cases hr
   ·exact h.ref _ _ _ _ hr
  ·split at hr
   ·split at hr
    ·rename_i hv;rw[h.val _ _ _ hv];exact hr
    ·cases hr
   ·exact h.ref _ _ _ _ hr
  ·exact h.yld _ _ _ _ hr
  ·cases hr
 |invk tab x args =>
  simp only[qaa]at hr⊢;split at hr
  ·split at hr
   ·split at hr
    ·split at hr
     ·rename_i hv;rw[h.val _ _ _ hv];exact hr
     ·cases hr
    ·cases hr
   ·exact h.ref _ _ _ _ hr
   ·cases hr
  ·cases hr
 | _=>exact hr
theorem EL.ops{E E':Env}(h:EL E E'):∀(ops:List IOper) (id:Nat) (s r:St),qaP E ops id s=some r→qaP E' ops id s=some r
 | [],_,_,_,hr=>hr
 |o::l,id,s,r,hr=>by
  have ih:=h.ops l
  have hgo:∀x,(match qaa E (Sim.rd E s.fr) s.H id o.op with
    |some (v,H)=>qaP E l (if o.op.adds then id+1 else id) ⟨match o.dst with|some t=>s.fr.set t v|none=>s.fr,H⟩
    |none=>none)=some x→(match qaa E' (Sim.rd E' s.fr) s.H id o.op with
    |some (v,H)=>qaP E' l (if o.op.adds then id+1 else id) ⟨match o.dst with|some t=>s.fr.set t v|none=>s.fr,H⟩
    |none=>none)=some x:=by
   intro x hx;split at hx
   ·rename_i v H he;rw[←h.rd,h.op _ _ _ _ _ he];exact ih _ _ _ hx
   ·cases hx
  simp only[qaP]at hr⊢;split at hr
  ·exact hgo _ hr
  ·split at hr
   ·split at hr
    ·rename_i hw;simp only[hw,if_true];exact hgo _ hr
    ·rename_i hw;simp only[hw,if_false,zzg];exact ih _ _ _ hr
   ·exact ih _ _ _ hr
   ·cases hr
theorem EL.reg{E E':Env}(h:EL E E')(ops:List IOper)(kill:List Nat)(s r:St)(hr:qfZ E ops kill s=some r):qfZ E' ops kill s=some r:=by
 unfold qfZ at hr⊢;split at hr
 ·rename_i he;rw[h.ops _ _ _ _ he];exact hr
 ·cases hr
theorem EL.opD{E E':Env}(h:EL E E')(ρ:Rand→PV)(H:Heap)(id:Nat)(op:IOp)(r:PV×Heap)(hr:qau E ρ H id op=some r):qau E' ρ H id op=some r:=by
 unfold qau at hr⊢;split at hr
 ·rename_i hk;rw[if_pos hk];exact h.op _ _ _ _ _ hr
 ·rename_i hk;rw[if_neg hk];split at hr
  ·rename_i hb;rw[if_pos hb];split at hr
   ·rename_i v H' he;rw[h.op _ _ _ _ _ he];exact hr
   ·cases hr
  ·cases hr
theorem EL.writeS{E E':Env}(h:EL E E')(o:IOper)(id:Nat)(s s':St):Sim.writeS E o id s s'=Sim.writeS E' o id s s':=by
 unfold Sim.writeS;rw[h.rd]
theorem EL.touchS{E E':Env}(h:EL E E')(o:IOper)(s:St):Sim.touchS E o s=Sim.touchS E' o s:=by
 unfold Sim.touchS;rw[h.rd]
theorem EL.stepD{E E':Env}(h:EL E E')(o:IOper)(id:Nat)(s r:St)(hr:stepD E o id s=some r):Sim.stepD E' o id s=some r:=by
 have hgo:∀x,(match qau E (Sim.rd E s.fr) s.H id o.op with
   |some (v,H)=>some (⟨match o.dst with|some t=>s.fr.set t v|none=>s.fr,H⟩:St)
   |none=>none)=some x→(match qau E' (Sim.rd E' s.fr) s.H id o.op with
   |some (v,H)=>some (⟨match o.dst with|some t=>s.fr.set t v|none=>s.fr,H⟩:St)
   |none=>none)=some x:=by
  intro x hx;split at hx
  ·rename_i v H he;rw[←h.rd,h.opD _ _ _ _ _ he];exact hx
  ·cases hx
 simp only[Sim.stepD]at hr⊢;split at hr
 ·exact hgo _ hr
 ·split at hr
  ·split at hr
   ·rename_i hw;simp only[hw,if_true];exact hgo _ hr
   ·rename_i hw;simp only[hw,if_false,zzg];exact hr
  ·exact hr
  ·cases hr
theorem EL.opsD{E E':Env}(h:EL E E'):∀(ops:List IOper) (bf:List Nat) (acc:List (List Nat×List Nat)) (id:Nat) (s r:St),qb5 E ops bf acc id s=some r→qb5 E' ops bf acc id s=some r
 | [],_,_,_,_,_,hr=>hr
 |o::l,bf,acc,id,s,r,hr=>by
  simp only[qb5]at hr⊢;split at hr
  ·rename_i s' hs;rw[h.stepD _ _ _ _ hs];simp only[h.writeS,h.touchS]at hr;split at hr
   ·rename_i hp;simp only[hp,if_true];exact h.opsD l _ _ _ _ _ hr
   ·cases hr
  ·cases hr
theorem EL.regD{E E':Env}(h:EL E E')(ops:List IOper)(bf kill:List Nat)(s r:St)(hr:qgu E ops bf kill s=some r):qgu E' ops bf kill s=some r:=by
 unfold qgu at hr⊢;split at hr
 ·rename_i he;rw[h.opsD _ _ _ _ _ _ he];exact hr
 ·cases hr
def LL(lp lp':(St→Res)→St→Res):Prop:=∀f f' s r,(∀s r,f s=some r→f' s=some r)→lp f s=some r→lp' f' s=some r
theorem qxC{evA evA' evX evX':Nat→St→Res}(hA:∀b s r,evA b s=some r→evA' b s=some r)(hX:∀b s r,evX b s=some r→evX' b s=some r)(fr:Fr)(o:Nat)(ps:List Nat)
  {y y':Nat→List PV→Heap→Option (PV×Heap)} (hy:YL y y'):YL (qf5 evA evX fr o ps y) (qf5 evA' evX' fr o ps y'):=by
 intro o' args H r h;unfold qf5 at h⊢;split at h
 ·rename_i ho;rw[if_pos ho];split at h
  ·rename_i hl;rw[if_pos hl];split at h
   ·rename_i h1;try rw[h1]
    try simp only
    split at h
    ·rename_i s1 h2;rw[hA _ _ _ h2];try simp only
     split at h
     ·rename_i h3;try rw[h3]
      try simp only
      split at h
      ·rename_i e s2 h4;rw[hX _ _ _ h4];exact h
      ·cases h
     ·cases h
    ·cases h
   ·cases h
  ·cases h
 ·rename_i ho;rw[if_neg ho];exact hy _ _ _ _ h
theorem EL.code{E E':Env}(h:EL E E'){lp lp':(St→Res)→St→Res}(hl:LL lp lp'):∀(c:PC) (base:Nat) (s:St) (r:Ex×St),qan E lp base c s=some r→qan E' lp' base c s=some r:=by
 intro c;induction c with
 |skip=>exact fun base s r hr=>hr
 |reg ops kill =>
  intro base s r hr;simp only[qan]at hr⊢;split at hr
  ·rename_i he;rw[h.reg _ _ _ _ he];exact hr
  ·cases hr
 |regD ops bf kill =>
  intro base s r hr;simp only[qan]at hr⊢;split at hr
  ·rename_i he;rw[h.regD _ _ _ _ _ he];exact hr
  ·cases hr
 |seq a b iha ihb =>
  intro base s r hr;simp only[qan]at hr⊢;split at hr
  ·rename_i s' he;rw[iha _ _ _ he];exact ihb _ _ _ hr
  ·rename_i hn;cases ha:qan E lp base a s with
   |none=>rw[ha]at hr;cases hr
   |some x =>
    rw[iha _ _ _ ha,←ha];obtain⟨e,s'⟩:=x;cases e with
    |norm=>exact absurd ha (hn s')
    |exit id=>rw[ha];rw[ha]at hr;exact hr
    |ret=>rw[ha];rw[ha]at hr;exact hr
 |cond c x y ihx ihy =>
  intro base s r hr;simp only[qan]at hr⊢;rw[←h.rd];split at hr
  ·rename_i hc;exact ihx _ _ _ hr
  ·rename_i hc;exact ihy _ _ _ hr
  ·cases hr
 |block id x ih =>
  intro base s r hr;simp only[qan]at hr⊢;cases hx:qan E lp base x s with
  |none=>rw[hx]at hr;cases hr
  |some v=>rw[hx]at hr;rw[ih _ _ _ hx];exact hr
 |loop live x ih =>
  intro base s r hr;simp only[qan]at hr⊢;exact hl _ _ _ _ (fun s r hs=>ih _ _ _ hs) hr
 |rng f g ps live a x iha ihx =>
  intro base s r hr;simp only[qan]at hr⊢;rw[←h.rd];split at hr
  ·rename_i n caps h1 h2;split at hr
   ·rename_i v H' he;rw[h.it _ _ (qxC (fun b s r hs=>iha b s r hs) (fun b s r hs=>ihx b s r hs) _ _ _ h.yld) _ _ _ _ he]
    exact hr
   ·cases hr
  ·cases hr
 |exit id=>exact fun base s r hr=>hr
 |ret=>exact fun base s r hr=>hr
 |bad=>exact fun base s r hr=>hr
theorem EL.runG{E E':Env}(h:EL E E')(gs:List PV)(H:Heap)(r:Heap)(hr:runG E gs H=some r):Sim.runG E' gs H=some r:=by
 unfold Sim.runG at hr⊢;split at hr
 ·exact hr
 ·exact hr
 ·split at hr
  ·rename_i hd;rw[h.dok]at hd;split at hr
   ·rename_i he;simp only[hd,if_true,h.ref _ _ _ _ he];exact hr
   ·cases hr
  ·cases hr
 ·cases hr
theorem EL.fn{E E':Env}(h:EL E E'){lp lp':(St→Res)→St→Res}(hl:LL lp lp')(F:PF)(args:List PV)(H:Heap)(r:PV×Heap)(hr:qbq E lp F args H=some r):qbq E' lp' F args H=some r:=by
 unfold qbq at hr⊢;split at hr
 ·rename_i ha;rw[if_pos ha];split at hr
  ·rename_i s hx;rw[h.code hl _ _ _ _ hx];simp only;split at hr
   ·rename_i H' hg;rw[h.runG _ _ _ hg];exact hr
   ·cases hr
  ·rename_i s hx;rw[h.code hl _ _ _ _ hx];simp only;split at hr
   ·rename_i H' hg;rw[h.runG _ _ _ hg];exact hr
   ·cases hr
  ·cases hr
 ·cases hr
theorem qso(n:Nat):LL (lpN n) (lpN (n+1)):=by
 induction n with
 |zero=>intro f f' s r _ h;cases h
 |succ n ih =>
  intro f f' s r hf h;rw[lpN]at h⊢;split at h
  ·rename_i s' hs;rw[hf _ _ hs];exact ih _ _ _ _ hf h
  ·rename_i hn;cases hs:f s with
   |none=>rw[hs]at h;cases h
   |some v =>
    rw[hf _ _ hs];rw[hs]at h;obtain⟨e,s'⟩:=v;cases e with
    |norm=>exact absurd hs (hn s')
    |exit id=>exact h
    |ret=>exact h
theorem qor(n:Nat):LL (lpN n) (lpN n):=by
 induction n with
 |zero=>intro f f' s r _ h;cases h
 |succ n ih =>
  intro f f' s r hf h;rw[lpN]at h⊢;split at h
  ·rename_i s' hs;rw[hf _ _ hs];exact ih _ _ _ _ hf h
  ·rename_i hn;cases hs:f s with
   |none=>rw[hs]at h;cases h
   |some v =>
    rw[hf _ _ hs];rw[hs]at h;obtain⟨e,s'⟩:=v;cases e with
    |norm=>exact absurd hs (hn s')
    |exit id=>exact h
    |ret=>exact h
theorem qsp{n m:Nat}(h:n≤m):LL (lpN n) (lpN m):=by
 obtain⟨k,rfl⟩:=Nat.exists_eq_add_of_le h;induction k with
 |zero=>exact qor n
 |succ k ih =>
  intro f f' s r hf h;exact qso (n+k) _ _ _ _ hf (ih (by omega) _ _ _ _ (fun _ _ h=>h) h)
theorem qwm(n:Nat):LL (lpN n) lpI:=fun _ f' s r hf h=>(qmE f' s r).2 ⟨n,qsp (zzt n) _ _ _ _ hf h⟩
def envY(T:Tab)(n:Nat)(Y:Nat→List PV→Heap→Option (PV×Heap)):Env:=⟨T.G,qh1 T n,qfF T n,Y,itN T n,T.dok⟩
def qdv(T:Tab)(n:Nat):Env:=envY T n noY
theorem qgB(T:Tab)(n:Nat)(Y:Nat→List PV→Heap→Option (PV×Heap))(f:Nat)(args:List PV)(H:Heap):itN T (n+1) Y f args H=match T.F f with
  |some F=>match qbq (envY T n Y) (lpN n) F args H with
   |some (v,H')=>some (gcV H.length v H')
   |none=>none
  |none=>T.R f args H:=by rw[itN];rfl
theorem qxz(T:Tab)(n f:Nat)(args:List PV)(H:Heap):qh1 T (n+1) f args H=match T.F f with
  |some F=>match qbq (qdv T n) (lpN n) F args H with
   |some (v,H')=>some (gcV H.length v H')
   |none=>none
  |none=>T.R f args H:=qgB T n noY f args H
theorem qiR(T:Tab)(n f:Nat)(args:List DV):qfF T (n+1) f args=match T.F f with
  |some F=>match qbq (qdv T n) (lpN n) F (args.map .d) []with
   |some (v,H')=>purT H' v
   |none=>none
  |none=>T.X f args:=by rw[qfF];rfl
theorem quO(T:Tab):∀n Y Y',YL Y Y'→EL (envY T n Y) (envY T n Y')∧EL (envY T n Y) (envY T (n+1) Y'):=by
 intro n;induction n with
 |zero =>
  intro Y Y' hY;exact⟨⟨rfl,fun _ _ _ _ h=>h,fun _ _ _ h=>h,hY,fun _ _ _ _ _ _ _ h=>by simp[envY,itN]at h,rfl⟩,
   ⟨rfl,fun _ _ _ _ h=>by simp[envY,qh1,itN]at h,fun _ _ _ h=>by simp[envY,qfF]at h,hY,fun _ _ _ _ _ _ _ h=>by simp[envY,itN]at h,rfl⟩⟩
 |succ n ih =>
  intro Y Y' hY;have hit:∀Y Y',YL Y Y'→∀f a H r,itN T (n+1) Y f a H=some r→itN T (n+1) Y' f a H=some r:=by
   intro Y Y' hY f a H r h;rw[qgB]at h⊢;split at h
   ·rename_i F hF;split at h
    ·rename_i v H' he;rw[EL.fn (ih Y Y' hY).1 (qor n) _ _ _ _ he];exact h
    ·cases h
   ·exact h
  have hup:∀Y Y',YL Y Y'→∀f a H r,itN T (n+1) Y f a H=some r→itN T (n+1+1) Y' f a H=some r:=by
   intro Y Y' hY f a H r h;rw[qgB]at h⊢;split at h
   ·rename_i F hF;split at h
    ·rename_i v H' he;rw[EL.fn (ih Y Y' hY).2 (qso n) _ _ _ _ he];exact h
    ·cases h
   ·exact h
  refine⟨⟨rfl,fun _ _ _ _ h=>h,fun _ _ _ h=>h,hY,hit,rfl⟩,⟨rfl,fun f a H r h=>hup noY noY (YL.refl _) f a H r h,fun f a r h => ?_,hY,hup,rfl⟩⟩
  change qfF T (n+1) f a=some r at h
  change qfF T (n+1+1) f a=some r
  rw[qiR]at h⊢;split at h
  ·rename_i F hF;split at h
   ·rename_i v H' he;have he':qbq (qdv T (n+1)) (lpN (n+1)) F (a.map .d) []=some (v,H'):=EL.fn (ih noY noY (YL.refl _)).2 (qso n) _ _ _ _ he
    rw[he'];exact h
   ·cases h
  ·exact h
theorem EL.trans{A B C:Env}(h:EL A B)(k:EL B C):EL A C :=
 ⟨h.G.trans k.G,fun _f _a _H _r x=>k.ref _ _ _ _ (h.ref _ _ _ _ x),fun _f _a _r x=>k.val _ _ _ (h.val _ _ _ x),fun _o _a _H _r x=>k.yld _ _ _ _ (h.yld _ _ _ _ x),fun _Y _Y' hY _f _a _H _r x=>k.it _ _ (YL.refl _) _ _ _ _ (h.it _ _ hY _ _ _ _ x),h.dok.trans k.dok⟩
theorem qkv(T:Tab){n m:Nat}(h:n≤m){Y Y':Nat→List PV→Heap→Option (PV×Heap)}(hY:YL Y Y'):EL (envY T n Y) (envY T m Y'):=by
 obtain⟨k,rfl⟩:=Nat.exists_eq_add_of_le h;induction k with
 |zero=>exact (quO T n Y Y' hY).1
 |succ k ih=>exact EL.trans (ih (by omega)) (quO T (n+k) Y' Y' (YL.refl _)).2
theorem qAo(T:Tab){n m:Nat}(h:n≤m):EL (qdv T n) (qdv T m):=qkv T h (YL.refl _)
noncomputable def Tab.it(T:Tab)(Y:Nat→List PV→Heap→Option (PV×Heap))(f:Nat)(args:List PV)(H:Heap):Option (PV×Heap):=qmD fun n=>itN T n Y f args H
noncomputable def Tab.ref(T:Tab)(f:Nat)(args:List PV)(H:Heap):Option (PV×Heap):=T.it noY f args H
noncomputable def Tab.val(T:Tab)(f:Nat)(args:List DV):Option (PV×Bool):=qmD fun n=>qfF T n f args
theorem qof(T:Tab)(Y:Nat→List PV→Heap→Option (PV×Heap))(f:Nat)(args:List PV)(H:Heap)(r:PV×Heap):T.it Y f args H=some r↔∃n,itN T n Y f args H=some r :=
 qsm (fun n r h=>(qkv T (Nat.le_succ n) (YL.refl noY)).it _ _ (YL.refl Y) f args H r h) r
theorem qoM(T:Tab)(f:Nat)(args:List PV)(H:Heap)(r:PV×Heap):T.ref f args H=some r↔∃n,qh1 T n f args H=some r:=qof T noY f args H r
theorem qkX(T:Tab)(f:Nat)(args:List DV)(r:PV×Bool):T.val f args=some r↔∃n,qfF T n f args=some r :=
 qsm (fun n r h=>(qAo T (Nat.le_succ n)).val f args r h) r
noncomputable def Tab.envY(T:Tab)(Y:Nat→List PV→Heap→Option (PV×Heap)):Env:=⟨T.G,T.ref,T.val,Y,T.it,T.dok⟩
noncomputable def Tab.env(T:Tab):Env:=T.envY noY
theorem quN(T:Tab)(n:Nat){Y Y':Nat→List PV→Heap→Option (PV×Heap)}(hY:YL Y Y'):EL (envY T n Y) (T.envY Y') :=
 ⟨rfl,fun f a H r h=>(qoM T f a H r).2 ⟨n,h⟩,fun f a r h=>(qkX T f a r).2 ⟨n,h⟩,hY,fun _Y Y' hY f a H r h=>(qof T Y' f a H r).2 ⟨n,(qkv T (zzt n) (YL.refl noY)).it _ _ hY f a H r h⟩,rfl⟩
theorem qAn(T:Tab)(n:Nat):EL (qdv T n) T.env:=quN T n (YL.refl _)
structure YC (Yn:Nat→Nat→List PV→Heap→Option (PV×Heap)) (Y:Nat→List PV→Heap→Option (PV×Heap)):Prop where
 mono:∀n m,n≤m→YL (Yn n) (Yn m)
 fin:∀o a H r,Y o a H=some r→∃n,Yn n o a H=some r
structure Ch (En:Nat→Env) (ln:Nat→(St→Res)→St→Res) (E:Env) (l:(St→Res)→St→Res):Prop where
 mono:∀n m,n≤m→EL (En n) (En m)
 lmono:∀n m,n≤m→LL (ln n) (ln m)
 G:∀n,(En n).G=E.G
 ref:∀f a H r,E.ref f a H=some r→∃n,(En n).ref f a H=some r
 val:∀f a r,E.val f a=some r→∃n,(En n).val f a=some r
 yld:∀o a H r,E.yld o a H=some r→∃n,(En n).yld o a H=some r
 it:∀Yn Y,YC Yn Y→∀f a H r,E.it Y f a H=some r→∃n,(En n).it (Yn n) f a H=some r
 dok:∀n,(En n).dok=E.dok
 lp:∀(fn:Nat→St→Res) (f:St→Res),(∀n m,n≤m→∀s r,fn n s=some r→fn m s=some r)→(∀s r,f s=some r→∃n,fn n s=some r)→∀s r,l f s=some r→∃n,ln n (fn n) s=some r
section
variable {En : Nat → Env} {ln : Nat → (St → Res) → St → Res} {E : Env} {l : (St → Res) → St → Res}
theorem Ch.rd(h:Ch En ln E l)(n:Nat)(fr:Fr):Sim.rd (En n) fr=Sim.rd E fr:=by
 funext x;cases x<;>simp[Sim.rd,h.G]
theorem qsF(h:Ch En ln E l)(ρ:Rand→PV)(H:Heap)(id:Nat)(op:IOp)(r:PV×Heap)(hr:qaa E ρ H id op=some r):∃n,qaa (En n) ρ H id op=some r:=by
 cases op with
 |call m f args =>
  match m with
  | 0 =>
   simp only[qaa]at hr;split at hr
   ·split at hr
    ·rename_i hp _ _ _ hv;obtain⟨n,hn⟩:=h.val _ _ _ hv;exact⟨n,by simp only[qaa,hp,hn];exact hr⟩
    ·cases hr
   ·cases hr
  | 1 =>
   simp only[qaa]at hr;split at hr
   ·split at hr
    ·rename_i hp _ _ _ _ hv;obtain⟨n,hn⟩:=h.val _ _ _ hv;exact⟨n,by simp only[qaa,hp,hn];exact hr⟩
    ·cases hr
   ·cases hr
  |m+2 =>
   simp only[qaa]at hr;obtain⟨n,hn⟩:=h.ref _ _ _ _ hr;exact⟨n,by simp only[qaa];exact hn⟩
 |callv x args =>
  simp only[qaa]at hr;split at hr
  ·rename_i hx;split at hr
   ·rename_i hq;split at hr
    ·rename_i hv;obtain⟨n,hn⟩:=h.val _ _ _ hv;exact⟨n,by simp only[qaa,hx,hq,hn];exact hr⟩
    ·cases hr
   ·rename_i hq;obtain⟨n,hn⟩:=h.ref _ _ _ _ hr;exact⟨n,by simp only[qaa,hx,hq];exact hn⟩
  ·rename_i hx;split at hr
   ·rename_i hq;split at hr
    ·rename_i hv;obtain⟨n,hn⟩:=h.val _ _ _ hv;exact⟨n,by simp only[qaa,hx,hq,hn];exact hr⟩
    ·cases hr
   ·rename_i hq;obtain⟨n,hn⟩:=h.ref _ _ _ _ hr;exact⟨n,by simp only[qaa,hx,hq];exact hn⟩
  ·rename_i hx;obtain⟨n,hn⟩:=h.yld _ _ _ _ hr;exact⟨n,by simp only[qaa,hx];exact hn⟩
  ·cases hr
 |invk tab x args =>
  simp only[qaa]at hr;split at hr
  ·rename_i hx;split at hr
   ·rename_i ht;split at hr
    ·rename_i hp;split at hr
     ·rename_i hv;obtain⟨n,hn⟩:=h.val _ _ _ hv;exact⟨n,by simp only[qaa,hx,ht,hp,hn];exact hr⟩
     ·cases hr
    ·cases hr
   ·rename_i ht;obtain⟨n,hn⟩:=h.ref _ _ _ _ hr;refine⟨n,?_⟩;simp only[qaa,hx,ht];exact hn
   ·cases hr
  ·cases hr
 | _=>exact⟨0,hr⟩
theorem qoC(h:Ch En ln E l):∀(ops:List IOper) (id:Nat) (s r:St),qaP E ops id s=some r→∃n,qaP (En n) ops id s=some r
 | [],_,_,_,hr=>⟨0,hr⟩
 |o::l,id,s,r,hr=>by
  have hgo:∀x,(match qaa E (rd E s.fr) s.H id o.op with
    |some (v,H)=>qaP E l (if o.op.adds then id+1 else id) ⟨match o.dst with|some t=>s.fr.set t v|none=>s.fr,H⟩
    |none=>none)=some x→∃n,(match qaa (En n) (rd (En n) s.fr) s.H id o.op with
    |some (v,H)=>qaP (En n) l (if o.op.adds then id+1 else id) ⟨match o.dst with|some t=>s.fr.set t v|none=>s.fr,H⟩
    |none=>none)=some x:=by
   intro x hx;split at hx
   ·rename_i v H he;obtain⟨n,hn⟩:=qsF h _ _ _ _ _ he;obtain⟨m,hm⟩:=qoC h l _ _ _ hx;refine⟨max n m,?_⟩;rw[h.rd,(h.mono _ _ (Nat.le_max_left n m)).op _ _ _ _ _ hn];exact (h.mono _ _ (Nat.le_max_right n m)).ops _ _ _ _ hm
   ·cases hx
  simp only[qaP]at hr⊢;split at hr
  ·exact hgo _ hr
  ·split at hr
   ·split at hr
    ·rename_i hw;simp only[hw,if_true];exact hgo _ hr
    ·rename_i hw;simp only[hw,if_false,zzg];exact qoC h l _ _ _ hr
   ·exact qoC h l _ _ _ hr
   ·cases hr
theorem qIF(h:Ch En ln E l)(ops:List IOper)(kill:List Nat)(s r:St)(hr:qfZ E ops kill s=some r):∃n,qfZ (En n) ops kill s=some r:=by
 unfold qfZ at hr;split at hr
 ·rename_i he;obtain⟨n,hn⟩:=qoC h _ _ _ _ he;exact⟨n,by unfold qfZ;rw[hn];exact hr⟩
 ·cases hr
theorem qHP(h:Ch En ln E l)(ρ:Rand→PV)(H:Heap)(id:Nat)(op:IOp)(r:PV×Heap)(hr:qau E ρ H id op=some r):∃n,qau (En n) ρ H id op=some r:=by
 unfold qau at hr;split at hr
 ·rename_i hk;obtain⟨n,hn⟩:=qsF h _ _ _ _ _ hr;exact⟨n,by unfold qau;rw[if_pos hk];exact hn⟩
 ·rename_i hk;split at hr
  ·rename_i hb;split at hr
   ·rename_i v H' he;obtain⟨n,hn⟩:=qsF h _ _ _ _ _ he;exact⟨n,by unfold qau;rw[if_neg hk,if_pos hb,hn];exact hr⟩
   ·cases hr
  ·cases hr
theorem qI7(h:Ch En ln E l)(o:IOper)(id:Nat)(s r:St)(hr:stepD E o id s=some r):∃n,stepD (En n) o id s=some r:=by
 have hgo:∀x,(match qau E (rd E s.fr) s.H id o.op with
   |some (v,H)=>some (⟨match o.dst with|some t=>s.fr.set t v|none=>s.fr,H⟩:St)
   |none=>none)=some x→∃n,(match qau (En n) (rd (En n) s.fr) s.H id o.op with
   |some (v,H)=>some (⟨match o.dst with|some t=>s.fr.set t v|none=>s.fr,H⟩:St)
   |none=>none)=some x:=by
  intro x hx;split at hx
  ·rename_i v H he;obtain⟨n,hn⟩:=qHP h _ _ _ _ _ he;exact⟨n,by rw[h.rd,hn];exact hx⟩
  ·cases hx
 simp only[stepD]at hr⊢;split at hr
 ·exact hgo _ hr
 ·split at hr
  ·split at hr
   ·rename_i hw;simp only[hw,if_true];exact hgo _ hr
   ·rename_i hw;simp only[hw,if_false,zzg];exact⟨0,hr⟩
  ·exact⟨0,hr⟩
  ·cases hr
theorem qw1(h:Ch En ln E l):∀(ops:List IOper) (bf:List Nat) (acc:List (List Nat×List Nat)) (id:Nat) (s r:St),qb5 E ops bf acc id s=some r→∃n,qb5 (En n) ops bf acc id s=some r
 | [],_,_,_,_,_,hr=>⟨0,hr⟩
 |o::l,bf,acc,id,s,r,hr=>by
  simp only[qb5]at hr;split at hr
  ·rename_i s' hs;obtain⟨n,hn⟩:=qI7 h _ _ _ _ hs;have hw:∀n,Sim.writeS (En n) o id s s'=Sim.writeS E o id s s':=fun n=>by unfold Sim.writeS;rw[h.rd]
   have ht:∀n,Sim.touchS (En n) o s=Sim.touchS E o s:=fun n=>by unfold Sim.touchS;rw[h.rd]
   split at hr
   ·rename_i hp;obtain⟨m,hm⟩:=qw1 h l _ _ _ _ _ hr;refine⟨max n m,?_⟩;simp only[qb5];rw[(h.mono _ _ (Nat.le_max_left n m)).stepD _ _ _ _ hn];simp only[hw,ht,hp,if_true];exact (h.mono _ _ (Nat.le_max_right n m)).opsD _ _ _ _ _ _ hm
   ·cases hr
  ·cases hr
theorem qIC(h:Ch En ln E l)(ops:List IOper)(bf kill:List Nat)(s r:St)(hr:qgu E ops bf kill s=some r):∃n,qgu (En n) ops bf kill s=some r:=by
 unfold qgu at hr;split at hr
 ·rename_i he;obtain⟨n,hn⟩:=qw1 h _ _ _ _ _ _ he;exact⟨n,by unfold qgu;rw[hn];exact hr⟩
 ·cases hr
theorem qIJ{an xn:Nat→Nat→St→Res}{a x:Nat→St→Res}(ha:∀b s r,a b s=some r→∃n,an n b s=some r)(hx:∀b s r,x b s=some r→∃n,xn n b s=some r)
  (ma:∀n m,n≤m→∀b s r,an n b s=some r→an m b s=some r) (mx:∀n m,n≤m→∀b s r,xn n b s=some r→xn m b s=some r) (fr:Fr) (o:Nat) (ps:List Nat)
  {yn:Nat→Nat→List PV→Heap→Option (PV×Heap)} {y:Nat→List PV→Heap→Option (PV×Heap)} (hy:YC yn y):YC (fun n=>qf5 (an n) (xn n) fr o ps (yn n)) (qf5 a x fr o ps y):=by
 refine⟨fun n m hnm=>qxC (ma n m hnm) (mx n m hnm) fr o ps (hy.mono n m hnm),?_⟩
 intro o' args H r h;unfold qf5 at h;split at h
 ·rename_i ho;split at h
  ·rename_i hl;split at h
   ·rename_i h1;split at h
    ·rename_i s1 h2;split at h
     ·rename_i h3;split at h
      ·rename_i e s2 h4;obtain⟨n,hn⟩:=ha _ _ _ h2;obtain⟨m,hm⟩:=hx _ _ _ h4;refine⟨max n m,?_⟩;unfold qf5;rw[if_pos ho,if_pos hl,h1];simp only;rw[ma _ _ (Nat.le_max_left n m) _ _ _ hn];simp only;rw[h3];simp only;rw[mx _ _ (Nat.le_max_right n m) _ _ _ hm];exact h
      ·cases h
     ·cases h
    ·cases h
   ·cases h
  ·cases h
 ·rename_i ho;obtain⟨n,hn⟩:=hy.fin _ _ _ _ h;exact⟨n,by unfold qf5;rw[if_neg ho];exact hn⟩
theorem Ch.cmono(h:Ch En ln E l){n m:Nat}(hnm:n≤m)(c:PC)(base:Nat)(s:St)(r:Ex×St)(hr:qan (En n) (ln n) base c s=some r):qan (En m) (ln m) base c s=some r :=
 (h.mono n m hnm).code (h.lmono n m hnm) c base s r hr
theorem quq(h:Ch En ln E l):∀(c:PC) (base:Nat) (s:St) (r:Ex×St),qan E l base c s=some r→∃n,qan (En n) (ln n) base c s=some r:=by
 intro c;induction c with
 |skip=>exact fun base s r hr=>⟨0,hr⟩
 |reg ops kill =>
  intro base s r hr;simp only[qan]at hr⊢;split at hr
  ·rename_i he;obtain⟨n,hn⟩:=qIF h _ _ _ _ he;exact⟨n,by rw[hn];exact hr⟩
  ·cases hr
 |regD ops bf kill =>
  intro base s r hr;simp only[qan]at hr⊢;split at hr
  ·rename_i he;obtain⟨n,hn⟩:=qIC h _ _ _ _ _ he;exact⟨n,by rw[hn];exact hr⟩
  ·cases hr
 |seq a b iha ihb =>
  intro base s r hr;simp only[qan]at hr;cases ha:qan E l base a s with
  |none=>rw[ha]at hr;cases hr
  |some x =>
   obtain⟨n,hn⟩:=iha _ _ _ ha;rw[ha]at hr;obtain⟨e,s'⟩:=x;cases e with
   |norm =>
    obtain⟨m,hm⟩:=ihb _ _ _ hr;refine⟨max n m,?_⟩;simp only[qan];rw[h.cmono (Nat.le_max_left n m) _ _ _ _ hn];exact h.cmono (Nat.le_max_right n m) _ _ _ _ hm
   |exit id=>exact⟨n,by simp only[qan,hn];exact hr⟩
   |ret=>exact⟨n,by simp only[qan,hn];exact hr⟩
 |cond c x y ihx ihy =>
  intro base s r hr;simp only[qan]at hr⊢;split at hr
  ·rename_i hc;obtain⟨n,hn⟩:=ihx _ _ _ hr;exact⟨n,by rw[h.rd,hc];exact hn⟩
  ·rename_i hc;obtain⟨n,hn⟩:=ihy _ _ _ hr;exact⟨n,by rw[h.rd,hc];exact hn⟩
  ·cases hr
 |block id x ih =>
  intro base s r hr;simp only[qan]at hr⊢;cases hx:qan E l base x s with
  |none=>rw[hx]at hr;cases hr
  |some v =>
   obtain⟨n,hn⟩:=ih _ _ _ hx;exact⟨n,by rw[hn];rw[hx]at hr;exact hr⟩
 |loop live x ih =>
  intro base s r hr;simp only[qan]at hr⊢;exact h.lp (fun n s=>qan (En n) (ln n) base x (gc live base s)) _ (fun n m hnm s r hs=>h.cmono hnm _ _ _ _ hs) (fun s r hs=>ih _ _ _ hs) s r hr
 |rng f g ps live a x iha ihx =>
  intro base s r hr;simp only[qan]at hr⊢;split at hr
  ·rename_i k caps h1 h2;split at hr
   ·rename_i v H' he;obtain⟨n,hn⟩:=h.it _ _ (qIJ (fun b s r hs=>iha b s r hs) (fun b s r hs=>ihx b s r hs) (fun n m hnm b s r hs=>h.cmono hnm _ _ _ _ hs) (fun n m hnm b s r hs=>h.cmono hnm _ _ _ _ hs) _ _ _
     ⟨fun n m hnm=>(h.mono n m hnm).yld,h.yld⟩) _ _ _ _ he
    refine⟨n,?_⟩;rw[h.rd,h1,h2];simp only;rw[hn];exact hr
   ·cases hr
  ·cases hr
 |exit id=>exact fun base s r hr=>⟨0,hr⟩
 |ret=>exact fun base s r hr=>⟨0,hr⟩
 |bad=>exact fun base s r hr=>⟨0,hr⟩
theorem qxE(h:Ch En ln E l)(gs:List PV)(H r:Heap)(hr:runG E gs H=some r):∃n,runG (En n) gs H=some r:=by
 unfold runG at hr;split at hr
 ·exact⟨0,by unfold runG;exact hr⟩
 ·exact⟨0,by unfold runG;exact hr⟩
 ·split at hr
  ·rename_i hd;split at hr
   ·rename_i he;obtain⟨n,hn⟩:=h.ref _ _ _ _ he;have hd':=hd
    rw[←h.dok n]at hd';exact⟨n,by unfold runG;simp only[hd',if_true,hn];exact hr⟩
   ·cases hr
  ·cases hr
 ·cases hr
theorem qqS(h:Ch En ln E l)(F:PF)(args:List PV)(H:Heap)(r:PV×Heap)(hr:qbq E l F args H=some r):∃n,qbq (En n) (ln n) F args H=some r:=by
 unfold qbq at hr;split at hr
 ·rename_i ha;split at hr
  ·rename_i s hx;split at hr
   ·rename_i H' hg;obtain⟨n,hn⟩:=quq h _ _ _ _ hx;obtain⟨m,hm⟩:=qxE h _ _ _ hg;refine⟨max n m,?_⟩;unfold qbq;rw[if_pos ha,h.cmono (Nat.le_max_left n m) _ _ _ _ hn];simp only;rw[(h.mono _ _ (Nat.le_max_right n m)).runG _ _ _ hm];exact hr
   ·cases hr
  ·rename_i s hx;split at hr
   ·rename_i H' hg;obtain⟨n,hn⟩:=quq h _ _ _ _ hx;obtain⟨m,hm⟩:=qxE h _ _ _ hg;refine⟨max n m,?_⟩;unfold qbq;rw[if_pos ha,h.cmono (Nat.le_max_left n m) _ _ _ _ hn];simp only;rw[(h.mono _ _ (Nat.le_max_right n m)).runG _ _ _ hm];exact hr
   ·cases hr
  ·cases hr
 ·cases hr
end
theorem qwn(m:Nat):∀(fn:Nat→St→Res) (f:St→Res),(∀n m,n≤m→∀s r,fn n s=some r→fn m s=some r)→(∀s r,f s=some r→∃n,fn n s=some r)→∀s r,lpN m f s=some r→∃n,lpN m (fn n) s=some r:=by
 induction m with
 |zero=>intro fn f _ _ s r h;cases h
 |succ m ih =>
  intro fn f hm hf s r h;rw[lpN]at h;cases hs:f s with
  |none=>rw[hs]at h;cases h
  |some v =>
   obtain⟨n,hn⟩:=hf _ _ hs;rw[hs]at h;obtain⟨e,s'⟩:=v;cases e with
   |norm =>
    obtain⟨k,hk⟩:=ih fn f hm hf s' r h;refine⟨max n k,?_⟩;rw[lpN,hm _ _ (Nat.le_max_left n k) _ _ hn];exact qor m _ _ _ _ (hm _ _ (Nat.le_max_right n k)) hk
   |exit id=>exact⟨n,by rw[lpN,hn];exact h⟩
   |ret=>exact⟨n,by rw[lpN,hn];exact h⟩
theorem qA8(T:Tab):∀m Yn Y,YC Yn Y→∀f a H r,itN T m Y f a H=some r→∃n,itN T m (Yn n) f a H=some r:=by
 intro m;induction m with
 |zero=>intro Yn Y _ f a H r h;simp[itN]at h
 |succ m ih =>
  intro Yn Y hY f a H r h;rw[qgB]at h;split at h
  ·rename_i F hF;split at h
   ·rename_i v H' he;have hch:Ch (fun n=>envY T m (Yn n)) (fun _=>lpN m) (envY T m Y) (lpN m) :=
     ⟨fun n k hnk=>qkv T (zzt m) (hY.mono n k hnk),fun _ _ _=>qor m,fun _=>rfl,fun _ _ _ _ h=>⟨0,h⟩,fun _ _ _ h=>⟨0,h⟩,hY.fin,fun Yn' Y' hY' f a H r h=>ih Yn' Y' hY' f a H r h,fun _=>rfl,qwn m⟩
    obtain⟨n,hn⟩:=qqS hch _ _ _ _ he;exact⟨n,by rw[qgB,hF];simp only[hn];exact h⟩
   ·cases h
  ·rename_i hF;exact⟨0,by rw[qgB,hF];exact h⟩
theorem qul(T:Tab){Yn:Nat→Nat→List PV→Heap→Option (PV×Heap)}{Y:Nat→List PV→Heap→Option (PV×Heap)}(hY:YC Yn Y):Ch (fun n=>envY T n (Yn n)) lpN (T.envY Y) lpI:=by
 refine⟨fun n m hnm=>qkv T hnm (hY.mono n m hnm),fun n m hnm=>qsp hnm,fun _=>rfl,fun f a H r h=>(qoM T f a H r).1 h,fun f a r h=>(qkX T f a r).1 h,hY.fin,?_,fun _=>rfl,?_⟩
 ·intro Yn' Y' hY' f a H r h;obtain⟨m,hm⟩:=(qof T Y' f a H r).1 h;obtain⟨n,hn⟩:=qA8 T m Yn' Y' hY' f a H r hm;exact⟨max m n,(qkv T (Nat.le_max_left m n) (YL.refl noY)).it _ _ (hY'.mono _ _ (Nat.le_max_right m n)) f a H r hn⟩
 ·intro fn f hm hf s r h;obtain⟨m,hk⟩:=(qmE f s r).1 h;obtain⟨n,hn⟩:=qwn m fn f hm hf s r hk;exact⟨max m n,qsp (Nat.le_max_left m n) _ _ _ _ (hm _ _ (Nat.le_max_right m n)) hn⟩
theorem quk(Y:Nat→List PV→Heap→Option (PV×Heap)):YC (fun _=>Y) Y:=⟨fun _ _ _=>YL.refl Y,fun _ _ _ _ h=>⟨0,h⟩⟩
theorem qLW(T:Tab){f:Nat}{F:PF}(hF:T.F f=some F)(args:List DV):T.val f args=match qbq T.env lpI F (args.map .d) []with
  |some (v,H')=>purT H' v
  |none=>none:=by
 apply Option.ext
 intro r;rw[qkX];constructor
 ·rintro⟨n,h⟩;cases n with
  |zero=>cases h
  |succ n =>
   rw[qiR,hF]at h;simp only at h;split at h
   ·rename_i v H' he;rw[(qAn T n).fn (qwm n) _ _ _ _ he];exact h
   ·cases h
 ·intro h;split at h
  ·rename_i v H' he;obtain⟨n,hn⟩:=qqS (qul T (quk noY)) _ _ _ _ he;refine⟨n+1,?_⟩;rw[qiR,hF];simp only;have hn':qbq (qdv T n) (lpN n) F (args.map .d) []=some (v,H'):=hn
   rw[hn'];exact h
  ·cases h
theorem qvH(T:Tab){f:Nat}{F:PF}(hF:T.F f=some F)(Y:Nat→List PV→Heap→Option (PV×Heap))(args:List PV)(H:Heap):T.it Y f args H=match qbq (T.envY Y) lpI F args H with
  |some (v,H')=>some (gcV H.length v H')
  |none=>none:=by
 apply Option.ext
 intro r;rw[qof];constructor
 ·rintro⟨n,h⟩;cases n with
  |zero=>simp[itN]at h
  |succ n =>
   rw[qgB,hF]at h;simp only at h;split at h
   ·rename_i v H' he;rw[(quN T n (YL.refl Y)).fn (qwm n) _ _ _ _ he];exact h
   ·cases h
 ·intro h;split at h
  ·rename_i v H' he;obtain⟨n,hn⟩:=qqS (qul T (quk Y)) _ _ _ _ he;exact⟨n+1,by rw[qgB,hF];simp only[hn];exact h⟩
  ·cases h
theorem qIz(T:Tab){f:Nat}{F:PF}(hF:T.F f=some F)(args:List PV)(H:Heap):T.ref f args H=match qbq T.env lpI F args H with
  |some (v,H')=>some (gcV H.length v H')
  |none=>none:=qvH T hF noY args H
theorem qIA(T:Tab){f:Nat}(hF:T.F f=none)(args:List PV)(H:Heap):T.ref f args H=T.R f args H:=by
 apply Option.ext
 intro r;rw[qoM];constructor
 ·rintro⟨n,h⟩;cases n with
  |zero=>simp[qh1,itN]at h
  |succ n=>rw[qxz,hF]at h;exact h
 ·intro h;exact⟨1,by rw[qxz,hF];exact h⟩
theorem qtw(T:Tab){f:Nat}(hF:T.F f=none)(args:List DV):T.val f args=T.X f args:=by
 apply Option.ext
 intro r;rw[qkX];constructor
 ·rintro⟨n,h⟩;cases n with
  |zero=>cases h
  |succ n=>rw[qiR,hF]at h;exact h
 ·intro h;exact⟨1,by rw[qiR,hF];exact h⟩
end Go.Sim
