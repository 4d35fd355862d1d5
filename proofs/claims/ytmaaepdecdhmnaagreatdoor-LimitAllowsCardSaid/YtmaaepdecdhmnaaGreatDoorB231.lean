/- Part 23, second of the proof. -/
import Derived.Test.YtmaaepdecdhmnaaGreatDoorB23
namespace Go.Sim
set_option maxRecDepth 100000
set_option maxHeartbeats 8000000
section
attribute [local simp ↓] qdZ qdX qdP qdY qdM qdQ qdN qdO sqK blK lpK qd4 qd2 qd0 qd3 qd1 qdI qdK qeu qdo qdm qdn qdr qcS qcT qcD qcG qcR qcV qcF qcW qcL qcN qcO qcP qcU qcQ qcE qcH qcj qcI qcM qdk qdh qcY qcX qc6 qcZ qbu qbC qc0 qc1 qd6 qcu qd5 qes qcz qdc qdd qc7 qc9 qc8 qcl qdl qcn qc3 qdg qdb qda qc5 qc4 qdf qdi qc2 qde qdJ qck qcy qdz qcw qbR qdA qco qcp qdj qbV qer qcJ qdp qdq qd8 qet qd7 qdR qdS qdT qdU qdV qdW qcK qdy qew qeP qeQ qeN qeO qeM qev qeT qeR qfn qeS qfs qfJ qcm
attribute [local simp] qbO qd9 qea qdE qdF qds qdt qep qeq qdB qdC rd IOp.adds qaq gh nid rgK rdS qdG qdH qeb qec qeg qeh qek qef qej qei qcC qcA qcB qee qed qdx qdw qem qel qen qeo qeC qeB qeE qeD qeH qeA qeI qfq qfj qfp qfo
section
attribute [local simp ↓] qbJ qbT qbx qeG qbS qfk qbt qbw qce qeV qeW qcq qcr qbv qey qbz qe0 qeZ qe6 qfi qeY qfg qff qbD qe2 qbX qe3 qe5 qe4 qe7 qe1 qe9 qfb qfe qfd qfc qe8 qfa qfh qex qeX
attribute [local simp] qby qbe writeS touchS qaD qa4 chg qbm qbb qaY qbc PV.refs PV.refsL IOp.okD IOp.barr qb2 Nat.testBit
attribute [local simp] gc Fr.keep qaf qae qad PV.refs PV.refsL qaj gcH qai Obj.refs PV.ren PV.renL Obj.ren Heap.obj Fr.ren gh zzd
attribute [local simp ↓] qaZ qbk qaA qaC qaB
attribute [local simp] putAt mkA qal qax qaH qay Fr.ofArgs
theorem qJ9(T:Tab)(hR:HR T)(m n:Int)(m0:0≤m)(m1:m<18446744073709551616)(n0:0≤n)(n1:n<18446744073709551616):T.val 1075 [(Sz m).dv,.i .u64 n]=some (.t [.d (Sz (m*n)).dv,.d (.b true)],false):=by
 rw[qab T (hR 1075 F1075 rfl) rfl];have hz:DV.a [.i .u64 0,.i .u64 0]=(Sz 0).dv:=rfl
 have hst:Tms m n 0 n 0 n 18446744073709551616 1:=⟨by omega,n0,n1,by omega,by omega,by omega,by omega,by omega,by omega,by decide⟩
 simp[F1075];refine qbB (fun p:Nat×Int×Int=>⟨[(8,.d (I p.1)),(7,.d (.b true)),(6,.p 0 0 0),(4,.p 1 0 0),(2,.p 2 0 0),(1,.d (.i .u64 p.2.1))],[some (.box (K1 2) (.d (Sz p.2.2).dv)),some (.box (K1 2) (.d (Sz 0).dv)),some (.box (K1 2) (.d (Sz m).dv))]⟩) (fun p=>∃w P Q,Tms m n p.1 p.2.1 p.2.2 w P Q) (fun p=>64-p.1) ?_ (0,n,0) ⟨_,_,_,hst⟩ ?_
 ·rintro B-⟨s,v,o⟩ ⟨w,P,Q,ht⟩ hx;simp only at ht hx⊢;have hx':=fun (s':Nat×Int×Int)=>hx s'
  clear hx
  by_cases c:s<64
  ·obtain⟨v0,v1,b1,b2,w',P',ht'⟩:=ht.step c m0 m1 n0 n1;have o0:=ht.o0
   have e1:=qm3 T hR o o o0 (by omega) o0 (by omega)
   rw[Int.emod_eq_of_lt (by omega) (by omega),decide_eq_true (by omega)]at e1
   have e2:=qbj v v0 v1
   have e3:qaN .shl (.d (.i .u64 v)) (.d (.i .u64 1))=some (.i .u64 (v*2^1%18446744073709551616)):=qm0 v 1 (by omega)
   generalize v*2^1%18446744073709551616=u at e3 ht';have c':(s:Int)<64:=by omega
   have w1:IntKind.i64.wrap ((s:Int)+1)=((s+1:Nat):Int):=by rw[wI];omega
   by_cases hb:9223372036854775808≤v
   ·have b2:=b2 hb
    have e4:=qm3 T hR (o+o) m (by omega) (by omega) m0 (by omega)
    rw[Int.emod_eq_of_lt (by omega) (by omega),decide_eq_true (by omega)]at e4
    rw[if_pos hb]at e2 ht';simp[c',e1,e4,↓qas e2,↓qas e3,w1];exact hx' (s+1,u,o+o+m) ⟨_,_,_,ht'⟩ (by simp only;omega) _ _ (by simp[gc,Fr.keep,qaf,qae,qad,PV.refs,qaj,gcH,qai,Obj.refs,PV.ren,Obj.ren,Heap.obj,Fr.ren,gh,zzd])
   ·rw[if_neg hb]at e2 ht';simp[c',e1,↓qas e2,↓qas e3,w1];exact hx' (s+1,u,o+o) ⟨_,_,_,ht'⟩ (by simp only;omega) _ _ (by simp[gc,Fr.keep,qaf,qae,qad,PV.refs,qaj,gcH,qai,Obj.refs,PV.ren,Obj.ren,Heap.obj,Fr.ren,gh,zzd])
  ·have h64:s=64:=by have:=ht.s1;omega
   subst h64;obtain⟨s1,w0,w1,o0,e,hv,pq,p0,q0,pp⟩:=ht;have pp:P=1:=pp
   subst pp;have hw:w=0:=by omega
   subst hw;have ho:o=m*n:=by omega
   simp[ho]
 ·simp[gc,Fr.keep,qaf,qae,qad,PV.refs,qaj,gcH,qai,Obj.refs,PV.ren,Obj.ren,Heap.obj,Fr.ren,gh,zzd,hz]
theorem qnA{n:Int}(h0 : -9223372036854775808≤n)(h1:n<9223372036854775808):0≤aI n∧aI n≤9223372036854775808:=by unfold aI;split<;>omega
theorem qKa(T:Tab)(hR:HR T)(n:Int)(h0 : -9223372036854775808≤n)(h1:n<9223372036854775808):T.val 1076 [I n]=some (.d (.i .u64 (aI n)),false):=by
 have e1:=qkZ (n:=IntKind.u64.wrap n) (by rw[wU];omega) (by rw[wU];omega)
 rw[qab T (hR 1076 qjV rfl) rfl];by_cases h:n<0
 ·simp[qjV,h,↓qas e1];rw[qeL h];simp only[wU];omega
 ·simp[qjV,h];rw[qgN h];simp only[wU];omega
theorem qI0(a n:Int):sgn (!(decide (a<0)==decide (n<0))) (aI a*aI n)=a*n:=by
 rw[qox a n];by_cases h:a<0<;>by_cases g:n<0<;>simp[sgn,h,g]
theorem qJ4(T:Tab)(hR:HR T)(a n:Int)(a0 : -9223372036854775808≤a)(a1:a<9223372036854775808)(h0 : -9223372036854775808≤n)(h1:n<9223372036854775808):T.val 1071 [(Wd a).dv,I n]=some (.t [.d (Wd (a*n)).dv,.d (I 0)],false):=by
 obtain⟨p0,p1⟩:=qnA a0 a1;obtain⟨q0,q1⟩:=qnA h0 h1;have hm:=Int.mul_le_mul p1 q1 q0 (by omega)
 have hm0:=Int.mul_nonneg p0 q0
 have e1:=qkW T hR a (by omega) (by omega)
 have e2:=qKa T hR n h0 h1
 have e3:=qJ9 T hR (aI a) (aI n) p0 (by omega) q0 (by omega)
 have e4:=qm4 T hR (aI a*aI n) (!(decide (a<0)==decide (n<0))) hm0 (by omega)
 rw[show (if (!(decide (a<0)==decide (n<0)))=true then -(aI a*aI n)else aI a*aI n)=a*n from qI0 a n]at e4
 rw[qab T (hR 1071 qli rfl) rfl];simp[qli,e1,e2,e3,e4]
theorem qJ1(T:Tab)(hR:HR T)(a n:Int)(a0 : -9223372036854775808≤a)(a1:a<9223372036854775808)(h0 : -9223372036854775808≤n)(h1:n<9223372036854775808):T.val 1064 [I a,I n]=some (.d (Wd (a*n)).dv,false):=by
 have e1:=qgr T hR a a0 a1
 have e2:=qJ4 T hR a n a0 a1 h0 h1
 rw[qab T (hR 1064 qle rfl) rfl];simp[qle,e1,e2]
theorem qyk(T:Tab)(hR:HR T)(z:Int)(h0 : -170141183460469231731687303715884105728≤z)(h1:z<170141183460469231731687303715884105728):T.val 1063 [(Wd z).dv]=some (qfA z):=by
 obtain⟨a,ea,a1,a2⟩:=qfG z;have e1:=qgr T hR (IntKind.i64.wrap a.Lo) (by rw[wI];omega) (by rw[wI];omega)
 obtain⟨b,eb,b1,b2⟩:=qfG (IntKind.i64.wrap a.Lo);rw[eb]at e1;have e2:=qqE b a
 rw[qab T (hR 1063 qjU rfl) rfl,ea];rw[wI]at b1 b2;by_cases h : -9223372036854775808≤z∧z<9223372036854775808
 ·have e3:(b.Hi==a.Hi&&(b.Lo==a.Lo&&true))=true:=by simp;omega
  rw[e3]at e2;rw[qfA,if_pos h];simp[qjU,e1,↓qas e2];rw[wI];omega
 ·have e3:(b.Hi==a.Hi&&(b.Lo==a.Lo&&true))=false:=by simp;omega
  rw[e3]at e2;rw[qfA,if_neg h];simp[qjU,e1,↓qas e2]
end
end
structure Quo (M n:Int) (s:Nat) (v q r w P Q:Int):Prop where
 s1:s≤128
 w0:0≤w
 w1:w<P
 q0:0≤q
 r0:0≤r
 r1:r<n
 e:(q*n+r)*P+w=M
 v:v=w*Q
 pq:P*Q=340282366920938463463374607431768211456
 p0:0<P
 z0:0<Q
 pp:P=2^(128-s)
theorem Quo.step{M n:Int}{s:Nat}{v q r w P Q:Int}(h:Quo M n s v q r w P Q)(hs:s<128)(M1:M<340282366920938463463374607431768211456)(n1:n<9223372036854775808) :
  0≤v∧v<340282366920938463463374607431768211456∧q+q<340282366920938463463374607431768211455 ∧
  ∃b w' P',b=(if 9223372036854775808≤v/18446744073709551616 then 1 else 0) ∧
   Quo M n (s+1) ((v+v)%340282366920938463463374607431768211456) (if n≤r*2+b then q+q+1 else q+q) (if n≤r*2+b then r*2+b-n else r*2+b) w' P' (Q*2):=by
 obtain⟨s1,w0,w1,q0,r0,r1,e,hv,pq,p0,z0,pp⟩:=h;obtain⟨p,hp,hp0,hpp⟩:∃p,P=p*2∧0<p∧p=2^(128-(s+1)):=by
  refine⟨2^(128-(s+1)),?_,Int.pow_pos (by decide),rfl⟩
  rw[pp,←Int.pow_succ];congr 1;omega
 subst hp;have pq':p*Q*2=340282366920938463463374607431768211456:=by rw[←pq];ac_rfl
 have v0:0≤v:=by rw[hv];exact Int.mul_nonneg w0 (by omega)
 have v1:v<340282366920938463463374607431768211456:=by
  rw[hv,←pq];exact Int.mul_lt_mul_of_pos_right w1 z0
 have bit:9223372036854775808≤v/18446744073709551616↔p≤w:=by
  have hh:(170141183460469231731687303715884105728:Int)=p*Q:=by omega
  have:9223372036854775808≤v/18446744073709551616↔170141183460469231731687303715884105728≤v:=by omega
  rw[this,hv,hh];exact⟨fun g=>Int.not_lt.1 fun g'=>absurd (Int.mul_lt_mul_of_pos_right g' z0) (by omega),fun g=>Int.mul_le_mul_of_nonneg_right g (by omega)⟩
 have qn:q≤q*n:=by have:=Int.mul_le_mul_of_nonneg_left (show 1≤n by omega) q0;omega
 have qq:q+q<340282366920938463463374607431768211455:=by
  have h1:(q*n+r)*2≤(q*n+r)*(p*2):=Int.mul_le_mul_of_nonneg_left (by omega) (by omega)
  omega
 have e1:(q*n+r)*(p*2)=(q*n*2+r*2)*p:=by rw[←Int.add_mul];ac_rfl
 have hd:v+v=w*(Q*2):=by rw[hv,←Int.two_mul];ac_rfl
 have hpq:p*(Q*2)=340282366920938463463374607431768211456:=by rw[←pq];ac_rfl
 refine⟨v0,v1,qq,_,(if p≤w then w-p else w),p,rfl,?_⟩
 have e2:(q*n*2+(r*2+if 9223372036854775808≤v/18446744073709551616 then 1 else 0))*p+(if p≤w then w-p else w)=M:=by
  by_cases hw:p≤w
  ·rw[if_pos hw,if_pos (bit.2 hw),←Int.add_assoc,Int.add_mul,←e1];omega
  ·rw[if_neg hw,if_neg (fun h=>hw (bit.1 h)),Int.add_zero,←e1];exact e
 have e3:(v+v)%340282366920938463463374607431768211456=(if p≤w then w-p else w)*(Q*2):=by
  by_cases hw:p≤w
  ·rw[if_pos hw,hd,Int.sub_mul,hpq];rw[←hd];omega
  ·rw[if_neg hw,hd];have:w*(Q*2)<p*(Q*2):=Int.mul_lt_mul_of_pos_right (by omega) (by omega)
   rw[hpq]at this;exact Int.emod_eq_of_lt (by rw[←hd];omega) this
 have b0:0≤(if 9223372036854775808≤v/18446744073709551616 then (1:Int)else 0)∧(if 9223372036854775808≤v/18446744073709551616 then (1:Int)else 0)≤1:=by split<;>omega
 generalize (if 9223372036854775808≤v/18446744073709551616 then (1:Int)else 0)=b at *
 generalize hw':(if p≤w then w-p else w)=w' at *
 have w0':0≤w':=by rw[←hw'];split<;>omega
 have w1':w'<p:=by rw[←hw'];split<;>omega
 refine⟨by omega,w0',w1',by split<;>omega,by split<;>omega,by split<;>omega,?_,e3,hpq,hp0,by omega,hpp⟩
 rw[←e2];congr 2
 split
 ·rw[Int.add_mul,Int.add_mul];omega
 ·rw[Int.add_mul];omega
theorem Quo.done{M n:Int}{v q r w P Q:Int}(h:Quo M n 128 v q r w P Q):q=M/n∧r=M%n:=by
 obtain⟨s1,w0,w1,q0,r0,r1,e,hv,pq,p0,z0,pp⟩:=h;have pp:P=1:=pp
 subst pp;have hn:n≠0:=by omega
 have e:n*q+r=M:=by rw[Int.mul_comm];omega
 have:=Int.emod_add_mul_ediv M n
 constructor
 ·rw[←e,Int.add_comm,Int.add_mul_ediv_left _ _ hn,Int.ediv_eq_zero_of_lt r0 r1,Int.zero_add]
 ·rw[←e,Int.add_comm,Int.add_mul_emod_self_left,Int.emod_eq_of_lt r0 r1]
section
attribute [local simp ↓] qdZ qdX qdP qdY qdM qdQ qdN qdO sqK blK lpK qd4 qd2 qd0 qd3 qd1 qdI qdK qeu qdo qdm qdn qdr qcS qcT qcD qcG qcR qcV qcF qcW qcL qcN qcO qcP qcU qcQ qcE qcH qcj qcI qcM qdk qdh qcY qcX qc6 qcZ qbu qbC qc0 qc1 qd6 qcu qd5 qes qcz qdc qdd qc7 qc9 qc8 qcl qdl qcn qc3 qdg qdb qda qc5 qc4 qdf qdi qc2 qde qdJ qck qcy qdz qcw qbR qdA qco qcp qdj qbV qer qcJ qdp qdq qd8 qet qd7 qdR qdS qdT qdU qdV qdW qcK qdy qew qeP qeQ qeN qeO qeM qev qeT qeR qfn qeS qfs qfJ qcm
attribute [local simp] qbO qd9 qea qdE qdF qds qdt qep qeq qdB qdC rd IOp.adds qaq gh nid rgK rdS qdG qdH qeb qec qeg qeh qek qef qej qei qcC qcA qcB qee qed qdx qdw qem qel qen qeo qeC qeB qeE qeD qeH qeA qeI qfq qfj qfp qfo
section
attribute [local simp ↓] qbJ qbT qbx qeG qbS qfk qbt qbw qce qeV qeW qcq qcr qbv qey qbz qe0 qeZ qe6 qfi qeY qfg qff qbD qe2 qbX qe3 qe5 qe4 qe7 qe1 qe9 qfb qfe qfd qfc qe8 qfa qfh qex qeX
attribute [local simp] qby qbe writeS touchS qaD qa4 chg qbm qbb qaY qbc PV.refs PV.refsL IOp.okD IOp.barr qb2 Nat.testBit
attribute [local simp] gc Fr.keep qaf qae qad PV.refs PV.refsL qaj gcH qai Obj.refs PV.ren PV.renL Obj.ren Heap.obj Fr.ren gh zzd
attribute [local simp ↓] qaZ qbk qaA qaC qaB
attribute [local simp] putAt mkA qal qax qaH qay Fr.ofArgs
theorem qKb(T:Tab)(hR:HR T)(M n:Int)(M0:0≤M)(M1:M<340282366920938463463374607431768211456)(n0:0<n)(n1:n<9223372036854775808):T.val 1077 [(Sz M).dv,.i .u64 n]=some (.t [.d (Sz (M/n)).dv,.d (.i .u64 (M%n))],false):=by
 rw[qab T (hR 1077 F1077 rfl) rfl];have hz:DV.a [.i .u64 0,.i .u64 0]=(Sz 0).dv:=rfl
 have hst:Quo M n 0 M 0 0 M 340282366920938463463374607431768211456 1:=⟨by omega,M0,M1,by omega,by omega,n0,by omega,by omega,by omega,by omega,by omega,by decide⟩
 simp[F1077];refine qbB (fun p:Nat×Int×Int×Int=>⟨[(8,.d (I p.1)),(7,.d (.i .u64 p.2.2.2)),(6,.p 0 0 0),(4,.p 1 0 0),(2,.p 2 0 0),(1,.d (.i .u64 n))],[some (.box (K1 2) (.d (Sz p.2.2.1).dv)),some (.box (K1 2) (.d (Sz 0).dv)),some (.box (K1 2) (.d (Sz p.2.1).dv))]⟩) (fun p=>∃w P Q,Quo M n p.1 p.2.1 p.2.2.1 p.2.2.2 w P Q) (fun p=>128-p.1) ?_ (0,M,0,0) ⟨_,_,_,hst⟩ ?_
 ·rintro B-⟨s,v,q,r⟩ ⟨w,P,Q,ht⟩ hx;simp only at ht hx⊢;have hx':=fun (s':Nat×Int×Int×Int)=>hx s'
  clear hx
  by_cases c:s<128
  ·obtain⟨v0,v1,b1,b,w',P',hb,ht'⟩:=ht.step c M1 n1;have q0:=ht.q0
   have r0:=ht.r0
   have r1:=ht.r1
   have e0:=qyp T hR v v0 v1
   have e1:=qyp T hR q q0 (by omega)
   rw[Int.emod_eq_of_lt (by omega) (by omega),decide_eq_true (by omega)]at e1
   obtain⟨a,ea,a1,a2⟩:=qf8 v;have e2:=qbj a.h (by omega) (by omega)
   have e3:qaN .shl (.d (.i .u64 r)) (.d (.i .u64 1))=some (.i .u64 (r*2^1%18446744073709551616)):=qm0 r 1 (by omega)
   rw[show r*2^1%18446744073709551616=r*2 by omega]at e3
   have c':(s:Int)<128:=by omega
   have w1:IntKind.i64.wrap ((s:Int)+1)=((s+1:Nat):Int):=by rw[wI];omega
   generalize (v+v)%340282366920938463463374607431768211456=u at e0 ht';generalize decide (v+v<340282366920938463463374607431768211456)=z at e0;obtain⟨d,ed,d1,d2⟩:=qf8 (q+q);rw[ed]at e1;have hq:DV.a [.i .u64 d.h,.i .u64 (IntKind.u64.wrap (d.l+1))]=(Sz (q+q+1)).dv:=sz0 (by omega) (by rw[wU];omega)
   rw[←a1]at hb;rw[ea]at e0⊢;have hcl:(PV.d d.dv).cells=[.d (.i .u64 d.h),.d (.i .u64 d.l)]:=rfl
   have hmk:∀x:Int,mkP (K1 2) [.d (.i .u64 d.h),.d (.i .u64 x)]=some (.d (.a [.i .u64 d.h,.i .u64 x])):=fun _=>rfl
   have w3:IntKind.u64.wrap (r*2+1)=r*2+1:=wrU (by omega) (by omega)
   by_cases h1:9223372036854775808≤a.h
   ·rw[if_pos h1]at hb e2;subst hb;by_cases h2:n≤r*2+1
    ·rw[if_pos h2,if_pos h2]at ht';have w4:IntKind.u64.wrap (r*2+1-n)=r*2+1-n:=wrU (by omega) (by omega)
     simp[c',e0,e1,↓qas e2,↓qas e3,w1,w3,h2,w4,hcl,hmk,hq];exact hx' (s+1,u,q+q+1,r*2+1-n) ⟨_,_,_,ht'⟩ (by simp only;omega) _ _ (by simp[gc,Fr.keep,qaf,qae,qad,PV.refs,qaj,gcH,qai,Obj.refs,PV.ren,Obj.ren,Heap.obj,Fr.ren,gh,zzd])
    ·rw[if_neg h2,if_neg h2]at ht';simp[c',e0,e1,↓qas e2,↓qas e3,w1,w3,h2];rw[←ed];exact hx' (s+1,u,q+q,r*2+1) ⟨_,_,_,ht'⟩ (by simp only;omega) _ _ (by simp[gc,Fr.keep,qaf,qae,qad,PV.refs,qaj,gcH,qai,Obj.refs,PV.ren,Obj.ren,Heap.obj,Fr.ren,gh,zzd])
   ·rw[if_neg h1]at hb e2;subst hb;rw[Int.add_zero]at ht';by_cases h2:n≤r*2
    ·rw[if_pos h2,if_pos h2]at ht';have w4:IntKind.u64.wrap (r*2-n)=r*2-n:=wrU (by omega) (by omega)
     simp[c',e0,e1,↓qas e2,↓qas e3,w1,h2,w4,hcl,hmk,hq];exact hx' (s+1,u,q+q+1,r*2-n) ⟨_,_,_,ht'⟩ (by simp only;omega) _ _ (by simp[gc,Fr.keep,qaf,qae,qad,PV.refs,qaj,gcH,qai,Obj.refs,PV.ren,Obj.ren,Heap.obj,Fr.ren,gh,zzd])
    ·rw[if_neg h2,if_neg h2]at ht';simp[c',e0,e1,↓qas e2,↓qas e3,w1,h2];rw[←ed];exact hx' (s+1,u,q+q,r*2) ⟨_,_,_,ht'⟩ (by simp only;omega) _ _ (by simp[gc,Fr.keep,qaf,qae,qad,PV.refs,qaj,gcH,qai,Obj.refs,PV.ren,Obj.ren,Heap.obj,Fr.ren,gh,zzd])
  ·have h64:s=128:=by have:=ht.s1;omega
   subst h64;obtain⟨d1,d2⟩:=ht.done;subst d1;subst d2
   simp
 ·simp[gc,Fr.keep,qaf,qae,qad,PV.refs,qaj,gcH,qai,Obj.refs,PV.ren,Obj.ren,Heap.obj,Fr.ren,gh,zzd,hz]
theorem qJ6(T:Tab)(hR:HR T)(z n:Int)(h0 : -170141183460469231731687303715884105728<z)(h1:z<170141183460469231731687303715884105728)(n0:0<n)(n1:n<9223372036854775808):T.val 1073 [(Wd z).dv,I n]=some (.t [.d (Wd (z/n)).dv,.d (I (z%n)),.d (I 0)],false):=by
 have a0:0≤aI z:=by unfold aI;split<;>omega
 have a1:aI z<170141183460469231731687303715884105728:=by unfold aI;split<;>omega
 have e1:=qkW T hR z (by omega) h1
 have e2:=qKb T hR (aI z) n a0 (by omega) n0 n1
 have w1:IntKind.u64.wrap n=n:=wrU (by omega) (by omega)
 have c1:¬n<1:=by omega
 have r0:=Int.emod_nonneg (aI z) (b:=n) (by omega)
 have r1:=Int.emod_lt_of_pos (aI z) n0
 have q0:0≤aI z/n:=Int.ediv_nonneg a0 (by omega)
 have q1:aI z/n≤aI z:=Int.ediv_le_self n a0
 have hw:∀x:Int,0≤x→x<9223372036854775808→IntKind.i64.wrap x=x:=fun x _ _=>by rw[wI];omega
 have h1s:DV.a [.i .u64 0,.i .u64 1]=(Sz 1).dv:=rfl
 rw[qab T (hR 1073 qi0 rfl) rfl];by_cases h:z<0
 ·have ha:=qeL h
  have hz:z = - aI z:=by omega
  rw[decide_eq_true h]at e1;by_cases g:aI z%n=0
  ·obtain⟨d1,d2⟩:=qsA n0 g;rw[←hz]at d1 d2;have e3:=qm4 T hR (aI z/n) true q0 (by omega)
   rw[if_pos rfl,←d1]at e3;simp[qi0,c1,e1,w1,e2,g,e3,d2,hw 0 (by omega) (by omega)]
  ·obtain⟨d1,d2⟩:=qsB n0 g;rw[←hz]at d1 d2;have n2:2≤n:=by
    rcases (show n=1∨2≤n by omega)with rfl|h
    ·rw[Int.emod_one]at g;exact absurd rfl g
    ·exact h
   have hh:=qn8 a0 n2
   have e4:=qm3 T hR (aI z/n) 1 q0 (by omega) (by omega) (by omega)
   rw[Int.emod_eq_of_lt (by omega) (by omega),decide_eq_true (by omega)]at e4
   have e3:=qm4 T hR (aI z/n+1) true (by omega) (by omega)
   rw[if_pos rfl,←d1]at e3;have g0:0<aI z%n:=by omega
   have w2:IntKind.u64.wrap (n-aI z%n)=n-aI z%n:=wrU (by omega) (by omega)
   have w3:=hw (n-aI z%n) (by omega) (by omega)
   simp[qi0,c1,e1,w1,e2,g0,h1s,e4,w2,w3,e3,d2]
 ·have ha:=qgN h
  rw[decide_eq_false h]at e1;have e3:=qm4 T hR (aI z/n) false q0 (by omega)
  rw[if_neg (by decide)]at e3
  rw[ha]at e1 e2 e3 r0 r1;simp[qi0,c1,e1,w1,e2,e3,hw (z%n) r0 (by omega)]
theorem qJ5(T:Tab)(hR:HR T)(m:Int)(h:1≤m∧m≤6):T.val 1072 [I m]=some (.d (.b true),false):=by
 rw[qab T (hR 1072 qlj rfl) rfl];simp[qlj,h.1,h.2]
theorem qJ8(T:Tab)(hR:HR T)(g o:Bool)(r n:Int)(r0:0≤r)(r1:r<n)(n1:n<9223372036854775808):T.val 1074 [.b g,.b o,I r,I n,I 6]=some (.d (.b (decide (n-r<r∨r=n-r∧o=true))),false):=by
 have w:IntKind.i64.wrap (n-r)=n-r:=wrI (by omega) (by omega)
 rw[qab T (hR 1074 qh7 rfl) rfl];by_cases h:r=n-r
 ·have h2:¬n-r<r:=by omega
  have h3:(r==n-r)=true:=beq_iff_eq.2 h
  have e:decide (n-r<r∨r=n-r∧o=true)=o:=by
   cases o
   ·exact decide_eq_false fun g=>g.elim h2 fun k=>by cases k.2
   ·exact decide_eq_true (.inr ⟨h,rfl⟩)
  rw[e];simp[qh7,w,h3,bne]
 ·have h3:(r==n-r)=false:=zzO.2 h
  have e:decide (n-r<r∨r=n-r∧o=true)=decide (n-r<r):=decide_eq_decide.2 ⟨fun g=>g.elim id fun k=>absurd k.1 h,.inl⟩
  rw[e];simp[qh7,w,h3,bne]
theorem qJ7(T:Tab)(hR:HR T)(g o:Bool)(r n:Int):T.val 1074 [.b g,.b o,I r,I n,I 1]=some (.d (.b g),false):=by
 rw[qab T (hR 1074 qh7 rfl) rfl];simp[qh7]
theorem qIg{z n:Int}(h0 : -170141183460469231731687303715884105728<z)(h1:z<170141183460469231731687303715884105728)(n0:0<n) : -170141183460469231731687303715884105728<z/n∧z/n<170141183460469231731687303715884105728∧(0<z%n→z/n+1<170141183460469231731687303715884105728):=by
 rcases (show n=1∨2≤n by omega)with rfl|h
 ·rw[Int.ediv_one,Int.emod_one];omega
 ·by_cases hz:0≤z
  ·have:=qn8 hz h
   have:=Int.ediv_nonneg hz (show 0≤n by omega)
   omega
  ·have h2:z≤z/n:=by
    rw[Int.le_ediv_iff_mul_le n0]
    have:=Int.mul_le_mul_of_nonneg_left (show 1≤n by omega) (show 0≤-z by omega)
    rw[Int.neg_mul,Int.neg_mul]at this;omega
   have:=Int.ediv_neg_of_neg_of_pos (show z<0 by omega) n0
   omega
theorem qyl(T:Tab)(hR:HR T)(z n m:Int)(u:Bool)(h0 : -170141183460469231731687303715884105728<z)(h1:z<170141183460469231731687303715884105728)(n0:0<n)(n1:n<9223372036854775808)(hm:1≤m∧m≤6)
  (hu:T.val 1074 [.b (decide (z<0)),.b ((z/n)%2==1),I (z%n),I n,I m]=some (.d (.b u),false)):T.val 1065 [(Wd z).dv,I n,I m]=some (qfD (z/n+if 0<z%n∧u=true then 1 else 0)):=by
 have e0:=qJ6 T hR z n h0 h1 n0 n1
 have e1:=qJ5 T hR m hm
 have e2:=qgr T hR 1 (by decide) (by decide)
 have c1:¬n<1:=by omega
 obtain⟨q0,q1,q2⟩:=qIg h0 h1 n0;have eI:∀x:Int,-170141183460469231731687303715884105728<x→x<170141183460469231731687303715884105728→T.val 1063 [(Wd x).dv]=some (qfA x):=fun x a b=>qyk T hR x (by omega) b
 have e5:=fun h=>qyf T hR (z/n) 1 (by omega) (by omega) (by omega) (by omega) (by omega) h
 obtain⟨a,ea,a1,a2⟩:=qfG z;obtain⟨b,eb,b1,b2⟩:=qfG (z/n);have e3:=qs0 b.Lo 2 (by omega) (by omega)
 rw[show (z/n)%2=b.Lo%2 by omega,show decide (z<0)=decide (a.Hi<0)from decide_eq_decide.2 (by omega)]at hu
 rw[qab T (hR 1065 qg2 rfl) rfl,ea];rw[ea,eb]at e0;rw[eb]at e5;by_cases g:0<z%n
 ·have e5:=e5 (q2 g)
  cases u
  ·have e6:=eI (z/n) q0 q1
   rw[eb,qfA]at e6;rw[if_neg (by simp),Int.add_zero,qfD]
   generalize z/n=q at *
   generalize z%n=r at *
   by_cases k : -9223372036854775808≤q∧q<9223372036854775808
   ·rw[if_pos k]at e6⊢;simp[-qbC,-qbu,qg2,c1,e1,e0,g,↓qas e3,hu,e6]
   ·rw[if_neg k]at e6⊢;simp[-qbC,-qbu,qg2,c1,e1,e0,g,↓qas e3,hu,e6]
  ·have e6:=eI (z/n+1) (by omega) (q2 g)
   rw[qfA]at e6;rw[if_pos ⟨g,rfl⟩,qfD];generalize hq:z/n+1=q at *
   generalize z%n=r at *
   by_cases k : -9223372036854775808≤q∧q<9223372036854775808
   ·rw[if_pos k]at e6⊢;simp[-qbC,-qbu,qg2,c1,e1,e0,g,↓qas e3,hu,e2,e5,e6]
   ·rw[if_neg k]at e6⊢;simp[-qbC,-qbu,qg2,c1,e1,e0,g,↓qas e3,hu,e2,e5,e6]
 ·have e6:=eI (z/n) q0 q1
  rw[eb,qfA]at e6;rw[if_neg (fun h=>g h.1),Int.add_zero,qfD]
  generalize z/n=q at *
  generalize z%n=r at *
  by_cases k : -9223372036854775808≤q∧q<9223372036854775808
  ·rw[if_pos k]at e6⊢;simp[-qbC,-qbu,qg2,c1,e1,e0,g,e6]
  ·rw[if_neg k]at e6⊢;simp[-qbC,-qbu,qg2,c1,e1,e0,g,e6]
theorem qtj(T:Tab)(hV:HV T)(v:AValue):T.val 1038 [v.dv]=some (.d (.b (okV v)),false):=by
 have e2:=qtk T hV v.N 1000000000000 (by omega) (by omega)
 have e3:=qtk T hV v.N 1000000000 (by omega) (by omega)
 have e4:=qtr T hV v.N
 rw[qab T (hV 1038 qfV rfl) rfl];unfold okV;by_cases h1:v.Typ=1
 ·simp[qfV,h1]
 ·have g1:=qac h1
  by_cases h2:v.Typ=2
  ·simp[qfV,h2,e2,wth]
  ·have g2:=qac h2
   by_cases h3:v.Typ=3
   ·simp[qfV,h3,e3,wth]
   ·have g3:=qac h3
    by_cases h4:v.Typ=4
    ·simp[qfV,h4,e4,qbh]
    ·have g4:=qac h4
     by_cases h5:v.Typ=5
     ·by_cases c:v.N=0
      ·simp[qfV,h5,c]
      ·have g:=qac c
       by_cases d:v.N=1
       ·simp[qfV,h5,d]
       ·have g':=qac d
        simp[qfV,h5,c,g,d,g']
     ·have g5:=qac h5
      simp[qfV,h1,h2,h3,h4,h5,g1,g2,g3,g4,g5]
def qfx(t z:Int):AValue×Int:=if -9223372036854775808≤z∧z<9223372036854775808∧okV ⟨t,z⟩=true then (⟨t,z⟩,0)else (⟨0,0⟩,6)
theorem qjR(T:Tab)(hR:HR T)(hV:HV T)(t z:Int)(h0 : -170141183460469231731687303715884105728≤z)(h1:z<170141183460469231731687303715884105728):T.val 1054 [I t,(Wd z).dv]=some (qam (qfx t z)):=by
 have e1:=qyk T hR z h0 h1
 have e2:=qtj T hV ⟨t,z⟩
 have hd:DV.a [I t,I z]=(⟨t,z⟩:AValue).dv:=rfl
 have hd0:DV.a [I 0,I 0]=(⟨0,0⟩:AValue).dv:=rfl
 rw[qab T (hR 1054 qiW rfl) rfl];unfold qfx;by_cases k : -9223372036854775808≤z∧z<9223372036854775808
 ·rw[qfA,if_pos k]at e1;by_cases h:okV ⟨t,z⟩=true
  ·rw[h]at e2;rw[if_pos ⟨k.1,k.2,h⟩];simp[qiW,e1,hd,e2,qam]
  ·have h':okV ⟨t,z⟩=false:=by simpa using h
   rw[h']at e2;rw[if_neg (fun g=>h g.2.2)]
   simp[qiW,e1,hd,e2,qam,hd0]
 ·rw[qfA,if_neg k]at e1;rw[if_neg (fun g=>k ⟨g.1,g.2.1⟩)]
  simp[qiW,e1,qam,hd0]
theorem qyn(T:Tab)(hR:HR T)(b:Bool):T.val 1066 [.b b]=some (.d (⟨5,if b=true then 1 else 0⟩:AValue).dv,false):=by
 rw[qab T (hR 1066 qlf rfl) rfl];cases b<;>simp[qlf]<;>rfl
theorem qwN(z n:Int)(n0:0<n):(z/n+if 0<z%n∧decide (n-z%n<z%n∨z%n=n-z%n∧((z/n)%2==1)=true)=true then 1 else 0)=qbF z n:=by
 unfold qbF qcs;have r0:=Int.emod_nonneg z (b:=n) (by omega)
 generalize z/n=q at *
 generalize z%n=r at *
 congr 1
 by_cases c1:n-r<r
 ·rw[if_pos c1,if_pos ⟨by omega,decide_eq_true (.inl c1)⟩]
 ·rw[if_neg c1];by_cases c2:r<n-r
  ·rw[if_pos c2,if_neg];rintro⟨-,h⟩
   have:=of_decide_eq_true h
   omega
  ·rw[if_neg c2];by_cases h:q%2=1
   ·rw[if_pos ⟨by omega,decide_eq_true (.inr ⟨by omega,beq_iff_eq.2 h⟩)⟩,h]
   ·rw[if_neg]
    ·omega
    ·rintro⟨-,h'⟩;rcases of_decide_eq_true h' with g|⟨-,g⟩
     ·exact c1 g
     ·exact h (beq_iff_eq.1 g)
theorem qym(T:Tab)(hR:HR T)(z n:Int)(h0 : -170141183460469231731687303715884105728<z)(h1:z<170141183460469231731687303715884105728)(n0:0<n)(n1:n<9223372036854775808):T.val 1065 [(Wd z).dv,I n,I 6]=some (qfD (qbF z n)):=by
 rw[qyl T hR z n 6 _ h0 h1 n0 n1 (by omega) (qJ8 T hR _ _ _ _ (Int.emod_nonneg z (by omega)) (Int.emod_lt_of_pos z n0) n1),qwN z n n0]
theorem qAj(z n:Int)(n0:0<n):(z/n+if 0<z%n∧decide (z<0)=true then 1 else 0)=z.tdiv n:=by
 have k:=Int.emod_add_mul_ediv z n
 have r0:=Int.emod_nonneg z (b:=n) (by omega)
 have r1:=Int.emod_lt_of_pos z n0
 by_cases h:0≤z
 ·rw[if_neg (fun g=>by have:=of_decide_eq_true g.2;omega),Int.add_zero,Int.tdiv_eq_ediv_of_nonneg h]
 ·rw[decide_eq_true (by omega)]
  have e:z.tdiv n = -((-z)/n):=by
   rw[←Int.tdiv_eq_ediv_of_nonneg (by omega),Int.neg_tdiv,Int.neg_neg]
  rw[e];by_cases g:(-z)%n=0
  ·obtain⟨d1,d2⟩:=qsA n0 g;rw[Int.neg_neg]at d1 d2;rw[d1,d2,if_neg (by omega),Int.add_zero]
  ·obtain⟨d1,d2⟩:=qsB n0 g;rw[Int.neg_neg]at d1 d2
   have:=Int.emod_lt_of_pos (-z) n0
   rw[d1,if_pos ⟨by omega,rfl⟩]
   omega
theorem qJ2(T:Tab)(hR:HR T)(z n:Int)(h0 : -170141183460469231731687303715884105728<z)(h1:z<170141183460469231731687303715884105728)(n0:0<n)(n1:n<9223372036854775808):T.val 1065 [(Wd z).dv,I n,I 1]=some (qfD (z.tdiv n)):=by
 rw[qyl T hR z n 1 _ h0 h1 n0 n1 (by omega) (qJ7 T hR _ _ _ _),qAj z n n0]
theorem qDR{x y:Int}(x0 : -9223372036854775808≤x)(x1:x<9223372036854775808)(y0 : -9223372036854775808≤y)(y1:y<9223372036854775808) : -170141183460469231731687303715884105728<x*y:=by
 have ha:=qnA x0 x1
 have hb:=qnA y0 y1
 have p0:0≤aI x*aI y:=Int.mul_nonneg ha.1 hb.1
 have p1:aI x*aI y≤9223372036854775808*9223372036854775808:=qmH ha.2 hb.2 hb.1 (by omega)
 rw[qox x y];generalize aI x*aI y=P at *
 split<;>omega
theorem qJW(T:Tab)(hR:HR T)(hV:HV T)(t:Int)(a b:AValue)(ha:a.i)(hb:b.i)(ta:0≤a.Typ∧a.Typ≤5)(tb:0≤b.Typ∧b.Typ≤5)
  (hn:a.Typ+b.Typ=5→a.Typ≠b.Typ→-9223372036854775808≤qbF (a.N*b.N) 1000000∧qbF (a.N*b.N) 1000000<9223372036854775808) :
  T.val 1056 [I t,a.dv,b.dv]=some (qam (if a.Typ+b.Typ≠5∨a.Typ=b.Typ then qfx t (a.N*b.N)else qfx t (qbF (a.N*b.N) 1000000))):=by
 have hm:=qwF ha.1 ha.2 hb.1 hb.2
 have e1:=qJ1 T hR a.N b.N ha.1 ha.2 hb.1 hb.2
 have e2:=qjR T hR hV t (a.N*b.N) hm.1 hm.2
 have w:IntKind.i64.wrap (a.Typ+b.Typ)=a.Typ+b.Typ:=wrI (by omega) (by omega)
 rw[qab T (hR 1056 qjT rfl) rfl];unfold qam at *
 by_cases c1:a.Typ+b.Typ=5
 ·by_cases c2:a.Typ=b.Typ
  ·rw[if_pos (.inr c2)];omega
  ·rw[if_neg (fun h=>h.elim (fun h=>h c1) c2)]
   obtain⟨n0,n1⟩:=hn c1 c2;have e3:=qym T hR (a.N*b.N) 1000000 (qDR ha.1 ha.2 hb.1 hb.2) hm.2 (by omega) (by omega)
   rw[qfD,if_pos ⟨n0,n1⟩]at e3;have e4:=qgr T hR _ n0 n1
   have e5:=qjR T hR hV t (qbF (a.N*b.N) 1000000) (by omega) (by omega)
   unfold qam at e5;have g2:=qac c2
   rw[c1]at w;have w:IntKind.i64.wrap (a.Typ+b.Typ)=5:=by rw[c1,w]
   simp[qjT,e1,w,g2,bne,e3,e4,e5]
 ·rw[if_pos (.inl c1)];have g1:=qac c1
  simp[qjT,e1,w,g1,bne,e2]
def qkK(t:Int)(a b:AValue):AValue×Int :=
 if b.N=0 then (⟨0,0⟩,7)else if b.N = -9223372036854775808 then (⟨t,if t=1∧a.N=b.N then 1 else 0⟩,0)
 else qfx t (if t=1 then (if b.N<0 then -a.N else a.N).tdiv (aI b.N)else qbF (if b.N<0 then -a.N else a.N) (aI b.N))
theorem qyg(T:Tab)(hR:HR T)(_hV:HV T)(t x n:Int)(x0 : -170141183460469231731687303715884105728<x)(x1:x<170141183460469231731687303715884105728)(n0:0<n)(n1:n<9223372036854775808) :
  ∃v e,T.val 1065 [(Wd x).dv,I n,I (if t=1 then 1 else 6)]=some (.t [.d (I v),.d (I e)],false)∧-9223372036854775808≤v∧v<9223372036854775808 ∧
   (e=0∧qfx t (if t=1 then x.tdiv n else qbF x n)=qfx t v∨e=6∧qfx t (if t=1 then x.tdiv n else qbF x n)=(⟨0,0⟩,6)):=by
 have e:T.val 1065 [(Wd x).dv,I n,I (if t=1 then 1 else 6)]=some (qfD (if t=1 then x.tdiv n else qbF x n)):=by
  by_cases h:t=1
  ·rw[if_pos h,if_pos h];exact qJ2 T hR x n x0 x1 n0 n1
  ·rw[if_neg h,if_neg h];exact qym T hR x n x0 x1 n0 n1
 rw[e];generalize (if t=1 then x.tdiv n else qbF x n)=q
 by_cases k : -9223372036854775808≤q∧q<9223372036854775808
 ·exact⟨q,0,by rw[qfD,if_pos k],k.1,k.2,.inl ⟨rfl,rfl⟩⟩
 ·exact⟨0,6,by rw[qfD,if_neg k],by decide,by decide,.inr ⟨rfl,by rw[qfx,if_neg fun g=>k ⟨g.1,g.2.1⟩]⟩⟩
theorem qJX(T:Tab)(hR:HR T)(hV:HV T)(t:Int)(a b:AValue)(ha:a.i)(hb:b.i):T.val 1057 [I t,a.dv,b.dv]=some (qam (qkK t a b)):=by
 unfold AValue.i at ha hb;have hd0:DV.a [I 0,I 0]=(⟨0,0⟩:AValue).dv:=rfl
 have hd:∀x,DV.a [I t,I x]=(⟨t,x⟩:AValue).dv:=fun _=>rfl
 have hw0:DV.a [I 0,.i .u64 0]=(Wd 0).dv:=rfl
 rw[qab T (hR 1057 qft rfl) rfl];unfold qkK;by_cases c0:b.N=0
 ·rw[if_pos c0];simp[qft,c0,hd0,qam]
 ·have g0:=qac c0
  rw[if_neg c0];by_cases c1:b.N = -9223372036854775808
  ·rw[if_pos c1];by_cases c2:t=1
   ·by_cases c3:a.N=b.N
    ·rw[if_pos ⟨c2,c3⟩];rw[c1]at c3;subst c2;simp[qft,c1,c3,hd,qam]
    ·rw[if_neg fun h=>c3 h.2]
     rw[c1]at c3;have g3:=qac c3
     subst c2;simp[qft,c1,g3,hd,qam]
   ·have g2:=qac c2
    rw[if_neg fun h=>c2 h.1]
    simp[qft,c1,g2,bne,hd,qam]
  ·have g1:=qac c1
   rw[if_neg c1];have e1:=qgr T hR a.N ha.1 ha.2
   by_cases c4:b.N<0
   ·have w:IntKind.i64.wrap (-b.N) = -b.N:=wrI (by omega) (by omega)
    have e2:=qtl T hR 0 a.N (by omega) (by omega) (by omega) (by omega) (by omega) (by omega)
    rw[Int.zero_sub]at e2;obtain⟨v,e,e3,v0,v1,h⟩:=qyg T hR hV t (-a.N) (-b.N) (by omega) (by omega) (by omega) (by omega)
    have e4:=qgr T hR v v0 v1
    have e5:=qjR T hR hV t v (by omega) (by omega)
    rw[if_pos c4,qeL c4];by_cases c2:t=1
    ·rw[if_pos c2]at e3;subst c2;rcases h with ⟨rfl,h⟩|⟨rfl,h⟩
     ·rw[h];unfold qam at *
      simp[qft,g0,g1,e1,c4,w,hw0,e2,e3,bne,e4,e5]
     ·rw[h];unfold qam at *
      simp[qft,g0,g1,e1,c4,w,hw0,e2,e3,bne,hd0]
    ·have g2:=qac c2
     rw[if_neg c2]at e3;rcases h with ⟨rfl,h⟩|⟨rfl,h⟩
     ·rw[h];unfold qam at *
      simp[qft,g0,g1,e1,c4,w,hw0,e2,g2,e3,bne,e4,e5]
     ·rw[h];unfold qam at *
      simp[qft,g0,g1,e1,c4,w,hw0,e2,g2,e3,bne,hd0]
   ·obtain⟨v,e,e3,v0,v1,h⟩:=qyg T hR hV t a.N b.N (by omega) (by omega) (by omega) (by omega)
    have e4:=qgr T hR v v0 v1
    have e5:=qjR T hR hV t v (by omega) (by omega)
    rw[if_neg c4,qgN c4];by_cases c2:t=1
    ·rw[if_pos c2]at e3;subst c2;rcases h with ⟨rfl,h⟩|⟨rfl,h⟩
     ·rw[h];unfold qam at *
      simp[qft,g0,g1,e1,c4,e3,bne,e4,e5]
     ·rw[h];unfold qam at *
      simp[qft,g0,g1,e1,c4,e3,bne,hd0]
    ·have g2:=qac c2
     rw[if_neg c2]at e3;rcases h with ⟨rfl,h⟩|⟨rfl,h⟩
     ·rw[h];unfold qam at *
      simp[qft,g0,g1,e1,c4,g2,e3,bne,e4,e5]
     ·rw[h];unfold qam at *
      simp[qft,g0,g1,e1,c4,g2,e3,bne,hd0]
def qhN(op x y:Int):Bool :=
 if op=10 then x==y else if op=11 then !(x==y)else if op=12 then decide (x<y)else if op=13 then decide (x≤y)
 else if op=14 then (x==1&&y==1)else if op=15 then (x==1||y==1)else x==0
def trV(b:Bool):AValue:=⟨5,if b=true then 1 else 0⟩
theorem qJZ(T:Tab)(hR:HR T)(op:Int)(a b:AValue)(t:Bool):T.val 1059 [I op,.l (K1 2) [a.dv,b.dv] t]=some (.d (trV (qhN op a.N b.N)).dv,false):=by
 have e:=qyn T hR
 have w:IntKind.i64.wrap 1=1:=by decide
 rw[qab T (hR 1059 qfH rfl) rfl];unfold qhN trV;by_cases h1:op=10
 ·subst h1;simp[qfH,e,w]
 ·have g1:=qac h1
  by_cases h2:op=11
  ·subst h2;simp[qfH,e,w,bne]
  ·have g2:=qac h2
   by_cases h3:op=12
   ·subst h3;simp[qfH,e,w]
   ·have g3:=qac h3
    by_cases h4:op=13
    ·subst h4;simp[qfH,e,w]
    ·have g4:=qac h4
     by_cases h5:op=14
     ·subst h5;by_cases c:a.N=1
      ·simp[qfH,e,w,c]
      ·have gc:=qac c
       simp[qfH,e,w,gc]
     ·have g5:=qac h5
      by_cases h6:op=15
      ·subst h6;by_cases c:a.N=1
       ·simp[qfH,e,w,c]
       ·have gc:=qac c
        simp[qfH,e,w,gc]
      ·have g6:=qac h6
       simp[qfH,e,w,h1,h2,h3,h4,h5,h6,g1,g2,g3,g4,g5,g6]
theorem qJ0(T:Tab)(hR:HR T)(a:AValue)(t:Bool):T.val 1059 [I 16,.l (K1 2) [a.dv] t]=some (.d (trV (a.N==0)).dv,false):=by
 have e:=qyn T hR
 have w:IntKind.i64.wrap 0=0:=by decide
 rw[qab T (hR 1059 qfH rfl) rfl];unfold trV;simp[qfH,e,w]
theorem qJY(T:Tab)(hR:HR T)(c a b:AValue)(t:Bool):T.val 1058 [I 19,.l (K1 2) [c.dv,a.dv,b.dv] t]=some (.d (if c.N=1 then a else b).dv,false):=by
 rw[qab T (hR 1058 qhA rfl) rfl];by_cases h:c.N=1
 ·rw[if_pos h];simp[qhA,h]
 ·have g:=qac h
  rw[if_neg h];simp[qhA,g]
theorem qyh(T:Tab)(hR:HR T)(op:Int)(a b:AValue)(t:Bool)(h9:op≠19):T.val 1058 [I op,.l (K1 2) [a.dv,b.dv] t]=some (.d (if (decide (a.N<b.N)==(op==17))=true then a else b).dv,false):=by
 have g9:=qac h9
 rw[qab T (hR 1058 qhA rfl) rfl];by_cases h:(decide (a.N<b.N)==(op==17))=true
 ·rw[if_pos h];simp[qhA,g9,h]
 ·have g:(decide (a.N<b.N)==(op==17))=false:=by simpa using h
  rw[if_neg h];simp[qhA,g9,g]
end
end
noncomputable def tabS:PT :=
 (.bin 925 F925 (.bin 859 F859 (.bin 678 qpb (.bin 544 qj5 (.bin 512 F512 .nil .nil) (.bin 603 qj6 .nil .nil)) (.bin 684 qi5 (.bin 683 F683 .nil .nil) (.bin 769 qhD .nil .nil))) (.bin 921 F921 (.bin 919 qid (.bin 860 F860 .nil .nil) (.bin 920 F920 .nil .nil)) (.bin 923 qj8 (.bin 922 F922 .nil .nil) (.bin 924 qlM .nil .nil)))) (.bin 969 qi7 (.bin 953 F953 (.bin 951 qgL (.bin 950 F950 .nil .nil) (.bin 952 qie .nil .nil)) (.bin 955 qbW (.bin 954 F954 .nil .nil) (.bin 968 qpc .nil .nil))) (.bin 1090 F1090 (.bin 985 qhF (.bin 970 qbs .nil .nil) (.bin 1023 qiU .nil .nil)) (.bin 1095 F1095 (.bin 1094 F1094 .nil .nil) (.bin 1096 F1096 .nil .nil)))))
abbrev HS(T:Tab):Prop:=∀n F,tabS.get n=some F→T.F n=some F
section
attribute [local simp ↓] qdZ qdX qdP qdY qdM qdQ qdN qdO sqK blK lpK qd4 qd2 qd0 qd3 qd1 qdI qdK qeu qdo qdm qdn qdr qcS qcT qcD qcG qcR qcV qcF qcW qcL qcN qcO qcP qcU qcQ qcE qcH qcj qcI qcM qdk qdh qcY qcX qc6 qcZ qbu qbC qc0 qc1 qd6 qcu qd5 qes qcz qdc qdd qc7 qc9 qc8 qcl qdl qcn qc3 qdg qdb qda qc5 qc4 qdf qdi qc2 qde qdJ qck qcy qdz qcw qbR qdA qco qcp qdj qbV qer qcJ qdp qdq qd8 qet qd7 qdR qdS qdT qdU qdV qdW qcK qdy qew qeP qeQ qeN qeO qeM qev qeT qeR qfn qeS qfs qfJ qcm
attribute [local simp] qbO qd9 qea qdE qdF qds qdt qep qeq qdB qdC rd IOp.adds qaq gh nid rgK rdS qdG qdH qeb qec qeg qeh qek qef qej qei qcC qcA qcB qee qed qdx qdw qem qel qen qeo qeC qeB qeE qeD qeH qeA qeI qfq qfj qfp qfo
section
attribute [local simp ↓] qbJ qbT qbx qeG qbS qfk qbt qbw qce qeV qeW qcq qcr qbv qey qbz qe0 qeZ qe6 qfi qeY qfg qff qbD qe2 qbX qe3 qe5 qe4 qe7 qe1 qe9 qfb qfe qfd qfc qe8 qfa qfh qex qeX
attribute [local simp] qby qbe writeS touchS qaD qa4 chg qbm qbb qaY qbc PV.refs PV.refsL IOp.okD IOp.barr qb2 Nat.testBit
attribute [local simp] gc Fr.keep qaf qae qad PV.refs PV.refsL qaj gcH qai Obj.refs PV.ren PV.renL Obj.ren Heap.obj Fr.ren gh zzd
attribute [local simp ↓] qaZ qbk qaA qaC qaB
attribute [local simp] putAt mkA qal qax qaH qay Fr.ofArgs
theorem qyM(T:Tab)(hS:HS T)(t:Int):T.val 924 [I t]=some (.d (.b (qbl t)),false):=by
 rw[qab T (hS 924 qlM rfl) rfl];unfold qbl;by_cases h:1≤t<;>simp[qlM,h]
def scB(t:Int):Bool:=t==1||(t==2||t==3)
theorem qo5(T:Tab)(hS:HS T)(t:Int):T.val 969 [I t]=some (.d (.b (scB t)),false):=by
 rw[qab T (hS 969 qi7 rfl) rfl];unfold scB;by_cases h1:t=1
 ·simp[qi7,h1]
 ·have g1:=qac h1
  by_cases h2:t=2
  ·simp[qi7,h2]
  ·have g2:=qac h2
   simp[qi7,g1,g2]
def prR(a b:Int):Int×Bool:=if (scB a&&scB b)=true then (if a=1 then (b,true)else if b=1 then (a,true)else (2,!(a==b)))else (0,false)
theorem qLS(T:Tab)(hS:HS T)(a b:Int):T.val 985 [I a,I b]=some (qaz (prR a b)):=by
 have ea:=qo5 T hS a
 have eb:=qo5 T hS b
 rw[qab T (hS 985 qhF rfl) rfl];unfold prR qaz;cases ha:scB a with
 |false =>
  rw[ha]at ea;simp[qhF,ea]
 |true =>
  rw[ha]at ea;cases hb:scB b with
  |false =>
   rw[hb]at eb;simp[qhF,ea,eb]
  |true =>
   rw[hb]at eb;by_cases h1:a=1
   ·subst h1;simp[qhF,ea,eb]
   ·have g1:=qac h1
    by_cases h2:b=1
    ·subst h2;simp[qhF,ea,eb,h1,g1]
    ·have g2:=qac h2
     simp[qhF,ea,eb,h1,g1,h2,g2,bne]
def twR(op a b:Int):Int×Bool :=
 if op=5 then (if a=4 then (a,b==1)else (a,a==b&&scB a))
 else if op=6 then (if a=4∧b=4 then (1,true)else if a=4 then (a,b==1)else (a,a==b&&scB a))
 else if op=7 then prR a b
 else if op=8 then (if a=2∧b=2 then (1,true)else (a,scB a&&b==1))
 else if op=10∨op=11 then (5,a==b)else if op=12∨op=13 then (5,a==b && !(a==5))
 else if op=14∨op=15 then (5,a==5&&b==5)else if op=17∨op=18 then (a,a==b && !(a==5))else (0,false)
theorem qLM(T:Tab)(hS:HS T)(op a b:Int):T.val 970 [I op,I a,I b]=some (qaz (twR op a b)):=by
 have ea:=qo5 T hS a
 have ep:=qLS T hS a b
 rw[qab T (hS 970 qbs rfl) rfl];unfold twR;generalize scB a=s at *
 generalize prR a b=p at *
 unfold qaz at *
 by_cases h5:op=5
 ·subst h5;by_cases c:a=4
  ·subst c;simp[qbs]
  ·have g:=qac c
   by_cases d:a=b
   ·simp[qbs,c,g,←d,ea]
   ·have g':=qac d
    simp[qbs,c,g,g']
 ·have g5:=qac h5
  by_cases h6:op=6
  ·subst h6;by_cases c:a=4
   ·subst c;by_cases d:b=4
    ·subst d;simp[qbs]
    ·have g:=qac d
     simp[qbs,d,g]
   ·have g:=qac c
    by_cases d:a=b
    ·simp[qbs,c,g,←d,ea]
    ·have g':=qac d
     simp[qbs,c,g,g']
  ·have g6:=qac h6
   by_cases h7:op=7
   ·subst h7;simp[qbs,ep]
   ·have g7:=qac h7
    by_cases h8:op=8
    ·subst h8;by_cases c:a=2∧b=2
     ·obtain⟨rfl,rfl⟩:=c;simp[qbs]
     ·rw[if_neg c];by_cases d:a=2
      ·have g:=qac (fun h=>c ⟨d,h⟩:¬b=2)
       subst d;cases s<;>simp[qbs,g,ea]
      ·have g:=qac d
       cases s<;>simp[qbs,g,ea]
    ·have g8:=qac h8
     by_cases h10:op=10
     ·subst h10;simp[qbs]
     ·have g10:=qac h10
      by_cases h11:op=11
      ·subst h11;simp[qbs]
      ·have g11:=qac h11
       by_cases h12:op=12
       ·subst h12;by_cases d:a=b
        ·simp[qbs,←d,bne]
        ·have g:=qac d
         simp[qbs,g]
       ·have g12:=qac h12
        by_cases h13:op=13
        ·subst h13;by_cases d:a=b
         ·simp[qbs,←d,bne]
         ·have g:=qac d
          simp[qbs,g]
        ·have g13:=qac h13
         by_cases h14:op=14
         ·subst h14;by_cases d:a=5
          ·simp[qbs,d]
          ·have g:=qac d
           simp[qbs,g]
         ·have g14:=qac h14
          by_cases h15:op=15
          ·subst h15;by_cases d:a=5
           ·simp[qbs,d]
           ·have g:=qac d
            simp[qbs,g]
          ·have g15:=qac h15
           by_cases h17:op=17
           ·subst h17;by_cases d:a=b
            ·simp[qbs,←d,bne]
            ·have g:=qac d
             simp[qbs,g]
           ·have g17:=qac h17
            by_cases h18:op=18
            ·subst h18;by_cases d:a=b
             ·simp[qbs,←d,bne]
             ·have g:=qac d
              simp[qbs,g]
            ·have g18:=qac h18
             rw[if_neg h5,if_neg h6,if_neg h7,if_neg h8,if_neg (fun h=>h.elim h10 h11),if_neg (fun h=>h.elim h12 h13),if_neg (fun h=>h.elim h14 h15),if_neg (fun h=>h.elim h17 h18)]
             simp[qbs,g5,g6,g7,g8,g10,g11,g12,g13,g14,g15,g17,g18]
theorem qJr(op a b:Int)(ha:qbl a=true)(hb:qbl b=true)(ho:5≤op∧op≤18):(twR op a b).2=(qa7 op a b).2∧((twR op a b).2=true→(twR op a b).1=(qa7 op a b).1):=by
 have key:∀o:Fin 14,∀x y:Fin 5,(twR (o.val+5:Nat) (x.val+1:Nat) (y.val+1:Nat)).2=(qa7 (o.val+5:Nat) (x.val+1:Nat) (y.val+1:Nat)).2∧((twR (o.val+5:Nat) (x.val+1:Nat) (y.val+1:Nat)).2=true→(twR (o.val+5:Nat) (x.val+1:Nat) (y.val+1:Nat)).1=(qa7 (o.val+5:Nat) (x.val+1:Nat) (y.val+1:Nat)).1):=by decide +kernel
 simp only[qbl,zzf,zzq]at ha hb;have k:=key ⟨(op-5).toNat,by omega⟩ ⟨(a-1).toNat,by omega⟩ ⟨(b-1).toNat,by omega⟩
 simp only[show (((op-5).toNat+5:Nat):Int)=op by omega,show (((a-1).toNat+1:Nat):Int)=a by omega,show (((b-1).toNat+1:Nat):Int)=b by omega]at k
 exact k
theorem qLI(T:Tab)(hS:HS T)(op a:Int)(t:Bool):T.val 955 [I op,.l K0 [I a] t]=some (qaz (if op=9 then (a,scB a)else if op=16 then (5,a==5)else (0,false))):=by
 have ea:=qo5 T hS a
 rw[qab T (hS 955 qbW rfl) rfl];unfold qaz;by_cases h9:op=9
 ·subst h9;simp[qbW,ea]
 ·have g9:=qac h9
  by_cases h16:op=16
  ·subst h16;simp[qbW]
  ·have g16:=qac h16
   by_cases h19:op=19
   ·subst h19;simp[qbW]
   ·have g19:=qac h19
    simp[qbW,h9,h16,g9,g16,g19]
theorem qLJ(T:Tab)(hS:HS T)(op a b:Int)(t:Bool):T.val 955 [I op,.l K0 [I a,I b] t]=some (qaz (twR op a b)):=by
 have e:=qLM T hS op a b
 rw[qab T (hS 955 qbW rfl) rfl];generalize twR op a b=p at *
 unfold qaz at *
 by_cases h9:op=9
 ·subst h9;simp[qbW,e]
 ·have g9:=qac h9
  by_cases h16:op=16
  ·subst h16;simp[qbW,e]
  ·have g16:=qac h16
   by_cases h19:op=19
   ·subst h19;simp[qbW,e]
   ·have g19:=qac h19
    simp[qbW,e,g9,g16,g19]
theorem qLK(T:Tab)(hS:HS T)(op a b c:Int)(t:Bool):T.val 955 [I op,.l K0 [I a,I b,I c] t]=some (qaz (if op=19 then (b,a==5&&b==c)else (0,false))):=by
 rw[qab T (hS 955 qbW rfl) rfl];unfold qaz;by_cases h9:op=9
 ·subst h9;simp[qbW]
 ·have g9:=qac h9
  by_cases h16:op=16
  ·subst h16;simp[qbW]
  ·have g16:=qac h16
   by_cases h19:op=19
   ·subst h19;by_cases d:a=5
    ·simp[qbW,d]
    ·have g:=qac d
     simp[qbW,g]
   ·have g19:=qac h19
    simp[qbW,h19,g9,g16,g19]
theorem qCd(T:Tab)(hS:HS T)(op:Int)(z:List Int)(t:Bool)(hn:z.length≤maxLen){k:KC (PV×Bool)}{r:Option (PV×Bool)}{fr:Fr}{H:Heap}(hr:∀fr H,fr.get 4 = .d (I 0)→fr.get 5 = .d (.b false)→qak fr=[]→k .ret fr H=r)
  (h0:gc [0,1,6] 0 ⟨fr,H⟩=⟨[(6,.d (I 0)),(1,.d (.l K0 (z.map fun n=>I n) t)),(0,.d (I op))],[]⟩) :
  kC T.env 0 fr H (.h (.loop [0,1,6] qnw,k))=if z.all qbl=true then k (.exit 0) ((15,.d (.b false))::[(6,.d (I z.length)),(1,.d (.l K0 (z.map fun n=>I n) t)),(0,.d (I op))]) []else r:=by
 rw[qa3 z (fun i _=>⟨[(6,.d (I i)),(1,.d (.l K0 (z.map fun n=>I n) t)),(0,.d (I op))],[]⟩) (fun _ _=>True) (fun i _ p c=>if qbl p=true then c ()else r) (fun _=>k (.exit 0) ((15,.d (.b false))::[(6,.d (I z.length)),(1,.d (.l K0 (z.map fun n=>I n) t)),(0,.d (I op))]) []) ?_ ?_ h0 trivial]
 ·rw[qmX qbl r];exact fun _ _ _ _=>rfl
 ·intro B _ _ _;simp
 ·intro B _ i _ hi _ c hc;have hm:=mxl
  have h1:(i:Int)<z.length:=by omega
  have h3:=wr1 (i:=i) (by omega)
  have e:=qyM T hS z[i]
  cases hk:qbl z[i]with
  |true =>
   rw[hk]at e;simp[h1,hi,e,h3];exact hc () _ _ trivial (by simp[gc,Fr.keep,qaf,qae,qad,PV.refs,gcH,PV.ren,Obj.ren,Heap.obj,Fr.ren,gh])
  |false =>
   rw[hk]at e;simp[h1,hi,e];exact hr _ _ (by simp[Fr.get]) (by simp[Fr.get]) (by simp[qak,gh])
theorem qLH(T:Tab)(hS:HS T)(op:Int)(t:Bool):T.val 955 [I op,.l K0 [] t]=some (qaz (0,false)):=by
 rw[qab T (hS 955 qbW rfl) rfl];unfold qaz;by_cases h9:op=9
 ·subst h9;simp[qbW]
 ·have g9:=qac h9
  by_cases h16:op=16
  ·subst h16;simp[qbW]
  ·have g16:=qac h16
   by_cases h19:op=19
   ·subst h19;simp[qbW]
   ·have g19:=qac h19
    simp[qbW,g9,g16,g19]
theorem qyN(T:Tab)(hS:HS T)(op:Int)(ts:List Int)(t:Bool)(hn:ts.length≤3)(ho:5≤op∧op≤19):T.val 925 [I op,.l K0 (ts.map fun n=>I n) t]=some (qaz (qaO op ts)):=by
 have hm:=mxl
 rw[qab T (hS 925 F925 rfl) rfl];have lp:=fun k fr H => @qCd T hS op ts t (by omega) k (some (qaz (0,false))) fr H
 obtain⟨r,hr⟩:∃r,some (qaz (qaO op ts))=r:=⟨_,rfl⟩;rw[hr];unfold qaO at hr;have c:¬(3:Int)<ts.length:=by omega
 simp[F925,c];rw[lp]
 ·by_cases ha:ts.all qbl=true
  ·rw[if_pos ha]at hr⊢;rw[←hr];clear hr lp
   simp only[blK,sqK];match ts,hn,ha with
   | [],_,_ =>
    show _=some (qaz (0,false))
    have e:=qLH T hS op t
    unfold qaz at *
    simp[e]
   | [a],_,ha =>
    show _=some (qaz (if (qbM op a).2=true then ((qbM op a).1,true)else (0,false)))
    have e:=qLI T hS op a t
    have q:(if op=9 then (a,scB a)else if op=16 then (5,a==5)else (0,false))=qbM op a:=by
     unfold qbM scB;by_cases h9:op=9
     ·subst h9;rfl
     ·by_cases h16:op=16
      ·subst h16;rfl
      ·rw[if_neg h9,if_neg h16,if_neg h16,if_neg h9]
    rw[q]at e;unfold qaz at *
    generalize qbM op a=p at *
    obtain⟨p1,p2⟩:=p;cases p2 with
    |true=>simp[e]
    |false=>simp[e]
   | [a,b],_,ha =>
    show _=some (qaz (if (qa7 op a b).2=true then ((qa7 op a b).1,true)else (0,false)))
    have e:=qLJ T hS op a b t
    have q:(twR op a b).2=(qa7 op a b).2∧((twR op a b).2=true→(twR op a b).1=(qa7 op a b).1):=by
     simp only[List.all_cons,List.all_nil,Bool.and_true,zzf]at ha;by_cases h:op≤18
     ·exact qJr op a b ha.1 ha.2 ⟨ho.1,h⟩
     ·have h:op=19:=by omega
      subst h;have g:arF arL 19 a b=none:=by simp[arL,arF]
      exact⟨by simp[twR,qa7,arV,g],fun h=>by cases h⟩
    obtain⟨q1,q2⟩:=q;unfold qaz at *
    generalize twR op a b=p at *
    obtain⟨p1,p2⟩:=p;generalize qa7 op a b=z at *
    obtain⟨z1,z2⟩:=z;simp only at q1 q2;subst q1;cases p2 with
    |true=>have q2:=q2 rfl;subst q2;simp[e]
    |false=>simp[e]
   | [a,b,d],_,ha =>
    show _=some (qaz (if op=19∧a=5∧b=d then (b,true)else (0,false)))
    have e:=qLK T hS op a b d t
    unfold qaz at *
    by_cases h:op=19∧a=5∧b=d
    ·obtain⟨rfl,rfl,rfl⟩:=h;simp at e;simp[e]
    ·rw[if_neg h];by_cases h9:op=19
     ·have g:(a==5&&b==d)=false:=by
       by_cases h5:a=5
       ·have:=qac (fun k=>h ⟨h9,h5,k⟩:¬b=d)
        simp[this]
       ·have:=qac h5
        simp[this]
      rw[if_pos h9,g]at e;simp[e]
     ·rw[if_neg h9]at e;simp[e]
  ·rw[if_neg ha]at hr⊢;exact hr
 ·intro fr H h4 h5 h6;simp[blK,sqK,h4,h5,h6,qaz]
 ·simp[gc,Fr.keep,qaf,qae,qad,PV.refs,gcH,PV.ren,Obj.ren,Heap.obj,Fr.ren,gh]
end
end
def qhb(t:Int)(p:Int×Int):AValue×Int:=if p.2=0 then (if okV ⟨t,p.1⟩=true then (⟨t,p.1⟩,0)else (⟨0,0⟩,6))else (⟨0,0⟩,p.2)
theorem qju(t z:Int):qfx t z=qhb t (qbE z):=by
 unfold qfx qhb qbE;by_cases h : -9223372036854775808≤z∧z<9223372036854775808
 ·rw[if_pos h];by_cases k:okV ⟨t,z⟩=true
  ·rw[if_pos ⟨h.1,h.2,k⟩,if_pos rfl,if_pos k]
  ·rw[if_neg (fun g=>k g.2.2),if_pos rfl,if_neg k]
 ·rw[if_neg h,if_neg (fun g=>h ⟨g.1,g.2.1⟩)]
  rfl
theorem qkP{t:Int}(h:scB t=true):t=1∨t=2∨t=3:=by
 simp only[scB,Bool.or_eq_true,beq_iff_eq]at h;exact h
theorem qH8(t:Int)(a b:AValue)(ha:scB a.Typ=true)(hb:scB b.Typ=true) :
  (if a.Typ+b.Typ≠5∨a.Typ=b.Typ then qfx t (a.N*b.N)else qfx t (qbF (a.N*b.N) 1000000))=qhb t (qiI a b):=by
 have ha:=qkP ha
 have hb:=qkP hb
 unfold qiI;by_cases h:a.Typ=b.Typ∨a.Typ=1∨b.Typ=1
 ·rw[if_pos h,if_pos (by omega),qju]
 ·rw[if_neg h,if_neg (by omega),qju]
theorem qsD{v:AValue}(h:okV v=true)(h2:v.Typ=2∨v.Typ=3) : -1000000000000≤v.N∧v.N≤1000000000000:=by
 unfold okV at h;rcases h2 with h2|h2
 ·rw[if_neg (by omega),if_pos h2]at h;simp at h;omega
 ·rw[if_neg (by omega),if_neg (by omega),if_pos h2]at h;simp at h;omega
theorem qJh(a b:Int):(if b<0 then -a else a).tdiv (aI b)=a.tdiv b:=by
 by_cases h:b<0
 ·rw[if_pos h,qeL h,Int.neg_tdiv,Int.tdiv_neg,Int.neg_neg]
 ·rw[if_neg h,qgN h]
theorem qIf(t:Int)(a b:AValue)(ha:a.i)(hb:b.i)(h0:b.N≠0)(ht:t=1↔a.Typ=b.Typ)(ht2:t=1∨t=2∨t=3)(hn:a.Typ≠b.Typ→-1000000000000≤a.N∧a.N≤1000000000000):qkK t a b=qhb t (qht a b):=by
 unfold AValue.i at ha hb;unfold qkK;rw[if_neg h0];have k1:∀x,okV ⟨1,x⟩=true:=fun _=>rfl
 by_cases h:a.Typ=b.Typ
 ·have h1:=ht.2 h
  subst h1;rw[if_pos rfl,qJh];unfold qht;rw[if_pos h];by_cases c:b.N = -9223372036854775808
  ·rw[if_pos c,c];by_cases d:a.N = -9223372036854775808
   ·rw[d,if_pos ⟨rfl,rfl⟩,if_neg (by decide)];rfl
   ·rw[if_neg (fun h=>d h.2),if_neg (fun h=>d h.1)]
    have e:a.N.tdiv (-9223372036854775808)=0:=by
     rw[Int.tdiv_neg];by_cases g:0≤a.N
     ·rw[Int.tdiv_eq_zero_of_lt g (by omega)];rfl
     ·have:(-a.N).tdiv 9223372036854775808=0:=Int.tdiv_eq_zero_of_lt (by omega) (by omega)
      rw[Int.neg_tdiv]at this;omega
    rw[e];rfl
  ·rw[if_neg c,qju];by_cases d:a.N = -9223372036854775808∧b.N = -1
   ·rw[if_pos d,d.1,d.2];rfl
   ·rw[if_neg d];have hl:(a.N.tdiv b.N).natAbs≤a.N.natAbs:=by rw[Int.natAbs_tdiv];exact Nat.div_le_self _ _
    have hx:a.N.tdiv b.N≠9223372036854775808:=by
     intro hq;have h2:(a.N.tdiv b.N).natAbs=a.N.natAbs/b.N.natAbs:=Int.natAbs_tdiv _ _
     rw[hq]at h2;have h3:a.N.natAbs≤9223372036854775808:=by omega
     have h4:b.N.natAbs=1:=by
      rcases (show b.N.natAbs=1∨2≤b.N.natAbs by omega)with g|g
      ·exact g
      ·have:=Nat.div_le_div_left (a:=a.N.natAbs) g (show 0<2 by decide)
       omega
     have h5:b.N=1∨b.N = -1:=by omega
     rcases h5 with h5|h5
     ·rw[h5,Int.tdiv_one]at hq;omega
     ·rw[h5,Int.tdiv_neg,Int.tdiv_one]at hq;exact d ⟨by omega,h5⟩
    rw[wrI (by omega) (by omega),qbE,if_pos (by omega)]
 ·have h1:t≠1:=fun k=>h (ht.1 k)
  have hn:=hn h
  unfold qht;rw[if_neg h,if_neg (fun k=>h1 k)]
  by_cases c:b.N = -9223372036854775808
  ·rw[if_pos c,if_pos c,if_neg (fun k=>h1 k.1)]
   rcases ht2 with rfl|rfl|rfl
   ·exact absurd rfl h1
   ·rfl
   ·rfl
  ·rw[if_neg c,if_neg c,qju];by_cases d:b.N<0
   ·rw[if_pos d,if_pos d,qeL d,wrI (by omega) (by omega)]
   ·rw[if_neg d,if_neg d,qgN d]
end Go.Sim
