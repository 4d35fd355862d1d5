/- Part 23 of the proof. -/
import Derived.Test.YtmaaepdecdhmnaaGreatDoorHB22
set_option linter.all false
namespace Go.Sim
set_option maxRecDepth 100000
set_option maxHeartbeats 8000000
section
attribute [local simp ↓] qgU qgS qgJ qgT qgG qgL qgH qgI sqK blK lpK qgZ qgX qgV qgY qgW qgz qgB qhC qga qf8 qf9 qgd qfC qfD qfn qfq qfB qfF qfp qfG qfv qfx qfy qfz qfE qfA qfo qfr qeK qfs qfw qf6 qf3 qfJ qfI qfR qfK qcZ qdA qfL qfM qg1 qeX qg0 qhz qe8 qfY qfZ qfS qfU qfT qeM qf7 qeN qfO qf2 qfW qfV qfQ qfP qf1 qf4 qfN qf0 qgA qeL qe7 qgq qe4 qb4 qgr qeO qeP qf5 qcs qhx qft qgb qgc qg5 qhA qg2 qgM qgN qgO qgP qgQ qgR qfu qgp qh0 qiZ qi0 qiX qiY qiV qhX qi4 qi1 qjA qi2 qjU qkA qfX
attribute [local simp] qck qg7 qg9 qgv qgw qgl qgm qhv qhw qgs qgt rd IOp.adds qao gh nid rgK rdS qgx qgy qhd qhe qhj qhk qhn qhi qhm qhl qfh qff qfg qhh qhg qgo qgn qhp qho qhq qhr qia qh8 qic qib qim qdk qiq qjL qjk qjK qjJ
section
attribute [local simp ↓] qcp qcq qb7 qdH qcN qew qbY qb1 qdj qdV qdW qdh qdi qb0 qdB qcd qd1 qd0 qd7 qej qdZ qeh qeg qcm qd3 qc2 qd4 qd6 qd5 qd8 qd2 qea qec qef qee qed qd9 qeb qei qdX qdY
attribute [local simp] qb9 qbr AA AP qaE qa8 chg qbj runs qa6 qbg PV.refs PV.AL IOp.okD IOp.barr qci Nat.testBit
attribute [local simp] gc Fr.keep qap qam qae PV.refs PV.AL qaG gcH qav Obj.refs PV.ren PV.Bt Obj.ren Heap.obj Fr.ren gh zzd
def qx1{A B z:Int}{r:Cz}(h:some (PV.d (Sz z).dv,false)=r)(h1:A=z/18446744073709551616)(h2:B=z%18446744073709551616):some (PV.d (.a [.i .u64 A,.i .u64 B]),false)=r:=by rw[sz0 h1 h2];exact h
def qRX(T:Tab)(hT:HT T)(z:Int)(h0 : -170141183460469231731687303715884105728<=z)(h1:z<170141183460469231731687303715884105728):T.val 55 [(Wd z).dv]=some (.d (Sz (aI z)).dv,false):=by
 obtain⟨a,ea,a1,a2⟩:=qeD z;obtain⟨b,eb,b1,b2⟩:=qeD (ngW z);obtain⟨r,hr⟩:∃r:Cz,some (.d (Sz (aI z)).dv,false)=r:=⟨_,rfl⟩;have e49:=qvN T hT z h0 h1
 rw[ea,eb]at e49;rw[qab T (hT 55 F55 rfl) rfl,ea,hr];by_cases h:z<0
 ·have g:a.Hi<0:=by omega
  simp[F55,Fr.Aa,g,e49,↓qaS,↓qa7,↓qay,↓qaC,↓qaB,putAt,mkA,qaf,qau,qaQ,qaw];refine qx1 hr ?_ ?_
  ·rw[wU,qhV h,b1];unfold ngW;split<;>omega
  ·rw[qhV h,b2];unfold ngW;split<;>omega
 ·have g:¬a.Hi<0:=by omega
  simp[F55,Fr.Aa,g,↓qaS,↓qa7,↓qay,↓qaC,↓qaB,putAt,mkA,qaf,qau,qaQ,qaw];refine qx1 hr ?_ ?_
  ·rw[wU,qoO h,a1];omega
  ·rw[qoO h,a2]
def qRY(T:Tab)(hT:HT T)(s n:Int)(h0:0<=s)(h1:s<340282366920938463463374607431768211456)(n0:0<n)(n1:n<18446744073709551616):T.val 56 [(Sz s).dv,.i .u64 n]=some (.t [.d (Sz (s/n)).dv,.d (.i .u64 (s%n))],false):=by
 obtain⟨a,ea,a1,a2⟩:=qoc s;obtain⟨r,hr⟩:∃r:Cz,some (.t [.d (Sz (s/n)).dv,.d (.i .u64 (s%n))],false)=r:=⟨_,rfl⟩;obtain⟨d1,d2,d3⟩:=qF5 (s:=s) (n:=n) h0 n0;rw[<-a1,<-a2]at d2 d3;rw[<-a1]at d1;have e1:=qBX a.h n (by omega) n0
 have e2:=quh a.h n (by omega) (by omega) n0
 have r0:=Int.emod_nonneg a.h (b:=n) (by omega)
 have r1:=Int.emod_lt_of_pos a.h n0
 have e3:=qR5 T hT (a.h%n) a.l n r0 (by omega) (by omega) r1 n1
 rw[d2,d3]at e3;have e4:DV.a [.i .u64 (a.h/n),.i .u64 (s/n%18446744073709551616)]=(Sz (s/n)).dv:=sz0 d1 rfl
 generalize s/n%18446744073709551616=q at *
 generalize s%n=m at *
 generalize Sz (s/n)=z at *
 generalize a.h%n=y at *
 generalize a.h/n=x at *
 rw[qab T (hT 56 F56 rfl) rfl,ea,hr];simp[-qcZ,-qdA,F56,Fr.Aa,↓qaP e1,↓qaP e2,e3,↓qay,↓qaC,↓qaB,putAt,mkA,qaf,qau,qaQ,qaw,e4];exact hr
def qRZ(T:Tab)(hT:HT T)(s:Int)(h0:0<=s)(h1:s+1<340282366920938463463374607431768211456):∃b,T.val 57 [(Sz s).dv,.i .u64 1,.i .u64 1]=some (.t [.d (Sz (s+1)).dv,.d (.b b)],false):=by
 obtain⟨a,ea,a1,a2⟩:=qoc s;have e1:=qvM T hT a.l 1 (by omega) (by omega) (by omega) (by omega)
 rw[Int.mul_one,show a.l/18446744073709551616=0 by omega,show a.l%18446744073709551616=a.l by omega]at e1
 have e2:=qvM T hT a.h 1 (by omega) (by omega) (by omega) (by omega)
 rw[Int.mul_one,show a.h/18446744073709551616=0 by omega,show a.h%18446744073709551616=a.h by omega]at e2
 have p1:=pr0 (x:=a.l) (y:=1) (c:=0) (by omega) (by omega) (by omega) (by omega)
 obtain⟨c,hc⟩:∃c,(a.l+1+0)/18446744073709551616=c:=⟨_,rfl⟩;obtain⟨m,hm⟩:∃m,(a.l+1+0)%18446744073709551616=m:=⟨_,rfl⟩;rw[hc,hm]at p1;have wc:IntKind.u64.wrap c=c:=wrU (by omega) (by omega)
 have p2:=pr0 (x:=a.h) (y:=c) (c:=0) (by omega) (by omega) (by omega) (by omega)
 obtain⟨c2,hc2⟩:∃c2,(a.h+c+0)/18446744073709551616=c2:=⟨_,rfl⟩;obtain⟨m2,hm2⟩:∃m2,(a.h+c+0)%18446744073709551616=m2:=⟨_,rfl⟩;rw[hc2,hm2]at p2;have e4:DV.a [.i .u64 m2,.i .u64 m]=(Sz (s+1)).dv:=sz0 (by omega) (by omega)
 have hc3:c2=0:=by omega
 subst hc3;refine⟨true,?_⟩;obtain⟨r,hr⟩:∃r:Cz,some (.t [.d (Sz (s+1)).dv,.d (.b true)],false)=r:=⟨_,rfl⟩;rw[qab T (hT 57 F57 rfl) rfl,ea,hr];generalize Sz (s+1)=z at *
 simp[F57,Fr.Aa,e1,e2,↓qmX,p1,p2,wc,↓qay,↓qaC,↓qaB,putAt,mkA,qaf,qau,qaQ,qaw,e4];exact hr
def qvP(T:Tab)(hT:HT T)(s:Int)(m:CG)(h0:0<=s)(h1:if m=true then s<=170141183460469231731687303715884105728 else s<170141183460469231731687303715884105728):T.val 58 [(Sz s).dv,.b m]=some (.t [.d (Wd (if m=true then -s else s)).dv,.d (I 0)],false):=by
 obtain⟨a,ea,a1,a2⟩:=qoc s;cases m with
 |false=>
  simp only[zzg,if_false]at h1⊢;have g1:¬9223372036854775808<a.h:=by omega
  have g2:¬a.h=9223372036854775808:=by omega
  have g3:(a.h==9223372036854775808)=false:=by simpa using g2
  have w:IntKind.i64.wrap a.h=a.h:=wrI (by omega) (by omega)
  have e4:DV.a [I a.h,.i .u64 a.l]=(Wd s).dv:=wd0 a1 a2
  obtain⟨r,hr⟩:∃r:Cz,some (.t [.d (Wd s).dv,.d (I 0)],false)=r:=⟨_,rfl⟩;rw[qab T (hT 58 F58 rfl) rfl,ea,hr];generalize Wd s=z at *
  simp[F58,Fr.Aa,g1,g2,g3,↓qaS,↓qa7,w,↓qay,↓qaC,↓qaB,putAt,mkA,qaf,qau,qaQ,qaw,e4];exact hr
 |true=>
  simp only[if_true]at h1⊢;have g1:¬9223372036854775808<a.h:=by omega
  obtain⟨z,hz⟩:∃z,z=if s=170141183460469231731687303715884105728 then -170141183460469231731687303715884105728 else s:=⟨_,rfl⟩
  have z0 : -170141183460469231731687303715884105728<=z/\z<170141183460469231731687303715884105728:=by rw[hz];split<;>omega
  have zn:ngW z=-s:=by
   unfold ngW;rw[hz];by_cases c:s=170141183460469231731687303715884105728
   ·rw[if_pos c,if_pos rfl];omega
   ·rw[if_neg c,if_neg (by omega)]
  have e49:=qvN T hT z z0.1 z0.2
  rw[zn]at e49;obtain⟨w,hw⟩:∃w,IntKind.i64.wrap a.h=w:=⟨_,rfl⟩;have hw2:=hw
  rw[wI]at hw2;have e4:DV.a [I w,.i .u64 a.l]=(Wd z).dv:=by
   by_cases c:s=170141183460469231731687303715884105728
   ·rw[if_pos c]at hz;exact wd0 (by omega) (by omega)
   ·rw[if_neg c]at hz;exact wd0 (by omega) (by omega)
  obtain⟨r,hr⟩:∃r:Cz,some (.t [.d (Wd (-s)).dv,.d (I 0)],false)=r:=⟨_,rfl⟩;rw[qab T (hT 58 F58 rfl) rfl,ea,hr];by_cases c:a.h=9223372036854775808
  ·have g2:(a.h==9223372036854775808)=true:=by simpa using c
   have g3:a.l=0:=by omega
   have g4:¬0<a.l:=by omega
   generalize Wd (-s)=z1 at *
   generalize Wd z=z2 at *
   simp[F58,Fr.Aa,g1,g2,g4,↓qaS,↓qa7,hw,↓qay,↓qaC,↓qaB,putAt,mkA,qaf,qau,qaQ,qaw,e4,e49];exact hr
  ·have g2:(a.h==9223372036854775808)=false:=by simpa using c
   generalize Wd (-s)=z1 at *
   generalize Wd z=z2 at *
   simp[F58,Fr.Aa,g1,g2,↓qaS,↓qa7,hw,↓qay,↓qaC,↓qaB,putAt,mkA,qaf,qau,qaQ,qaw,e4,e49];exact hr
def qxO(b:ASz)(h:¬(b.h=0/\b.l=0)):eqA [1,1] (.d b.dv) (.d (.a [.i .u64 0,.i .u64 0]))=some false:=by
 have:eqA [1,1] (.d b.dv) (.d (.a [.i .u64 0,.i .u64 0]))=some (b.h==0&&(b.l==0&&true)):=by simp[eqA,eqL,eqK,ASz.dv]
 rw[this];simp only[Bool.and_true];congr 1
 simpa using h
def qRJ(T:Tab)(hT:HT T)(z n:Int)(h0 : -170141183460469231731687303715884105728<=z)(h1:z<170141183460469231731687303715884105728)(n0:0<n)(n1:n<9223372036854775808):T.val 43 [(Wd z).dv,I n]=some (.t [.d (Wd (z/n)).dv,.d (I (z%n)),.d (I 0)],false):=by
 obtain⟨a,ea,a1,a2⟩:=qeD z;have s0:0<=aI z/\aI z<=170141183460469231731687303715884105728:=by unfold aI;split<;>omega
 have e55:=qRX T hT z h0 h1
 have e56:=qRY T hT (aI z) n s0.1 (by omega) n0 (by omega)
 rw[ea]at e55;have wn:IntKind.u64.wrap n=n:=wrU (by omega) (by omega)
 have gn:¬n<1:=by omega
 have q0:0<=aI z/n:=Int.ediv_nonneg s0.1 (by omega)
 have q1:aI z/n<=aI z:=Int.ediv_le_self n s0.1
 have m0:=Int.emod_nonneg (aI z) (b:=n) (by omega)
 have m1:=Int.emod_lt_of_pos (aI z) n0
 obtain⟨r,hr⟩:∃r:Cz,some (.t [.d (Wd (z/n)).dv,.d (I (z%n)),.d (I 0)],false)=r:=⟨_,rfl⟩;rw[qab T (hT 43 F43 rfl) rfl,ea,hr];by_cases hz:z<0
 ·have g:a.Hi<0:=by omega
  by_cases hm:aI z%n=0
  ·have hp:0<aI z/n:=by
    have:=qhV hz
    have e:=Int.mul_ediv_add_emod (aI z) n
    by_cases c:aI z/n=0
    ·rw[c]at e;omega
    ·omega
   obtain⟨d1,d2⟩:=qK6 n0 hm;rw[qhV hz,Int.neg_neg]at d1 d2;rw[d1,d2]at hr;rw[<-qhV hz]at hr;have e58:=qvP T hT (aI z/n) true q0 (by rw[if_pos rfl];omega)
   rw[if_pos rfl]at e58;obtain⟨b,eb,b1,b2⟩:=qoc (aI z/n);rw[eb]at e58 e56;have ez:=qxO b (by omega)
   rw[hm]at e56;generalize Sz (aI z)=s1 at *
   generalize Wd (-(aI z/n))=s2 at *
   have w0:IntKind.i64.wrap 0=0:=rfl
   simp[F43,Fr.Aa,e55,e56,gn,g,wn,↓qaS,↓qa7,↓qay,↓qaC,↓qaB,putAt,mkA,qaf,qau,qaQ,qaw,ez,e58,w0];exact hr
  ·obtain⟨d1,d2⟩:=qK7 n0 hm;rw[qhV hz,Int.neg_neg]at d1 d2;rw[<-qhV hz]at d1 d2;rw[d1,d2]at hr;obtain⟨bb,e57⟩:=qRZ T hT (aI z/n) q0 (by omega)
   have e58:=qvP T hT (aI z/n+1) true (by omega) (by
    rw[if_pos rfl];by_cases c:n=1
    ·subst c;exact absurd (Int.emod_one _) hm
    ·have:aI z/n<=aI z/2:=qyJ s0.1 (by omega)
     omega)
   rw[if_pos rfl]at e58;obtain⟨b,eb,b1,b2⟩:=qoc (aI z/n+1);rw[eb]at e58 e57;have ez:=qxO b (by omega)
   have gm:0<aI z%n:=by omega
   have w1:IntKind.u64.wrap (n-aI z%n)=n-aI z%n:=wrU (by omega) (by omega)
   have w2:IntKind.i64.wrap (n-aI z%n)=n-aI z%n:=wrI (by omega) (by omega)
   generalize Sz (aI z)=s1 at *
   generalize Sz (aI z/n)=s3 at *
   generalize Wd (-(aI z/n+1))=s2 at *
   generalize aI z%n=m at *
   simp[F43,Fr.Aa,e55,e56,e57,gn,g,gm,wn,w1,w2,↓qaS,↓qa7,↓qay,↓qaC,↓qaB,putAt,mkA,qaf,qau,qaQ,qaw,ez,e58];exact hr
 ·have g:¬a.Hi<0:=by omega
  rw[qoO hz]at *
  have e58:=qvP T hT (z/n) false q0 (by simp only[zzg,if_false];omega)
  simp only[zzg,if_false]at e58;have w2:IntKind.i64.wrap (z%n)=z%n:=wrI (by omega) (by omega)
  generalize Sz z=s1 at *
  generalize Sz (z/n)=s3 at *
  generalize Wd (z/n)=s2 at *
  generalize z%n=m at *
  simp[F43,Fr.Aa,e55,e56,gn,g,wn,w2,↓qaS,↓qa7,↓qay,↓qaC,↓qaB,putAt,mkA,qaf,qau,qaQ,qaw,e58];exact hr
def qb5(q ρ n:Int):Int:=if n-ρ<ρ then 1 else if ρ<n-ρ then 0 else q%2
def qRS(T:Tab)(hT:HT T)(z ρ n:Int)(r0:0<=ρ)(r1:ρ<n)(n1:n<9223372036854775808):T.val 45 [(Wd z).dv,I ρ,I n,I 6]=some (.d (I (qb5 z ρ n)),false):=by
 obtain⟨a,ea,a1,a2⟩:=qeD z;obtain⟨r,hr⟩:∃r:Cz,some (.d (I (qb5 z ρ n)),false)=r:=⟨_,rfl⟩;rw[qab T (hT 45 F45 rfl) rfl,ea,hr];have w:IntKind.i64.wrap (n-ρ)=n-ρ:=wrI (by omega) (by omega)
 by_cases c1:n-ρ<ρ
 ·rw[qb5,if_pos c1]at hr;simp[F45,Fr.Aa,w,c1];exact hr
 ·by_cases c2:ρ<n-ρ
  ·rw[qb5,if_neg c1,if_pos c2]at hr;simp[F45,Fr.Aa,w,c1,c2];exact hr
  ·rw[qb5,if_neg c1,if_neg c2]at hr;have e1:=qEQ a.Lo (by omega) (by omega)
   have w2:IntKind.i64.wrap (a.Lo%2)=a.Lo%2:=wrI (by omega) (by omega)
   rw[show z%2=a.Lo%2 by omega]at hr
   generalize a.Lo%2=y at *
   simp[F45,Fr.Aa,w,c1,c2,↓qaP e1,↓qaS,↓qa7,w2];exact hr
def qRq(T:Tab)(hT:HT T):T.val 35 [I 6]=some (.d (.b true),false):=by
 rw[qab T (hT 35 F35 rfl) rfl];simp[F35,Fr.Aa]
def qe1(z n:Int):Int:=z/n+qb5 (z/n) (z%n) n
def qk7(x:Int):PV×CG:=if -9223372036854775808<=x/\x<9223372036854775808 then (.t [.d (I x),.d (I 0)],false)else (.t [.d (I 0),.d (I 6)],false)
def qvI(T:Tab)(hT:HT T)(z n:Int)(h0 : -170141183460469231731687303715884105728<=z)(h1:z<170141183460469231731687303715884105728)(n0:0<n)(n1:n<9223372036854775808):T.val 36 [(Wd z).dv,I n,I 6]=some (qk7 (qe1 z n)):=by
 have e43:=qRJ T hT z n h0 h1 n0 n1
 have m0:=Int.emod_nonneg z (b:=n) (by omega)
 have m1:=Int.emod_lt_of_pos z n0
 have e45:=qRS T hT (z/n) (z%n) n m0 m1 n1
 have e35:=qRq T hT
 have hh:0<=qb5 (z/n) (z%n) n/\qb5 (z/n) (z%n) n<=1:=by unfold qb5;split<;>(try split)<;>omega
 have e44:=qiC T hT (qb5 (z/n) (z%n) n) (by omega) (by omega)
 have gn:¬n<1:=by omega
 have em:=Int.mul_ediv_add_emod z n
 have b1 : -170141183460469231731687303715884105728<=z/n:=Int.le_ediv_of_mul_le n0 (by omega)
 have b2:z/n<170141183460469231731687303715884105728:=Int.ediv_lt_of_lt_mul n0 (by omega)
 have b3:0<z%n->z/n+1<170141183460469231731687303715884105728:=by
  intro hp;by_cases c:n=1
  ·subst c;simp at hp
  ·by_cases hz:0<=z
   ·have:z/n<=z/2:=qyJ hz (by omega)
    omega
   ·have:z/n<0:=Int.ediv_neg_of_neg_of_pos (by omega) n0
    omega
 obtain⟨r,hr⟩:∃r,some (qk7 (qe1 z n))=r:=⟨_,rfl⟩;rw[qab T (hT 36 F36 rfl) rfl,hr];by_cases hm:0<z%n
 ·have e31:=qDa T hT (z/n) (qb5 (z/n) (z%n) n) b1 b2 (by omega) (by omega)
  rw[qdc,if_pos ⟨by omega,by have:=b3 hm;omega⟩]at e31
  have e46:=qvL T hT (z/n+qb5 (z/n) (z%n) n) (by omega) (by have:=b3 hm;omega)
  obtain⟨a,ea⟩:∃a,Wd z=a:=⟨_,rfl⟩;obtain⟨b,eb⟩:∃a,Wd (z/n)=a:=⟨_,rfl⟩;obtain⟨c,ec⟩:∃a,Wd (z/n+qb5 (z/n) (z%n) n)=a:=⟨_,rfl⟩;obtain⟨d,ed⟩:∃a,Wd (qb5 (z/n) (z%n) n)=a:=⟨_,rfl⟩;rw[ea]at e43⊢;rw[eb]at e43 e45 e31;rw[ec]at e31 e46;rw[ed]at e44 e31;rw[qk7,qe1]at hr;generalize z/n+qb5 (z/n) (z%n) n=v at *
  rw[qjs]at e46;by_cases hv : -9223372036854775808<=v/\v<9223372036854775808
  ·rw[if_pos hv]at hr e46;generalize qb5 (z/n) (z%n) n=k at *
   generalize z%n=m at *
   simp[F36,Fr.Aa,gn,e35,e43,hm,e45,e44,e31,e46];exact hr
  ·rw[if_neg hv]at hr e46;generalize qb5 (z/n) (z%n) n=k at *
   generalize z%n=m at *
   simp[F36,Fr.Aa,gn,e35,e43,hm,e45,e44,e31,e46];exact hr
 ·have hm0:z%n=0:=by omega
  have hh0:qb5 (z/n) (z%n) n=0:=by rw[hm0,qb5,if_neg (by omega),if_pos (by omega)]
  have e46:=qvL T hT (z/n) b1 b2
  rw[qk7,qe1,hh0,Int.add_zero]at hr;rw[hm0]at e43;obtain⟨a,ea⟩:∃a,Wd z=a:=⟨_,rfl⟩;obtain⟨b,eb⟩:∃a,Wd (z/n)=a:=⟨_,rfl⟩;rw[ea]at e43⊢;rw[eb]at e43 e46;rw[qjs]at e46;by_cases hv : -9223372036854775808<=z/n/\z/n<9223372036854775808
  ·rw[if_pos hv]at hr e46;generalize z/n=v at *
   simp[F36,Fr.Aa,gn,e35,e43,e46];exact hr
  ·rw[if_neg hv]at hr e46;generalize z/n=v at *
   simp[F36,Fr.Aa,gn,e35,e43,e46];exact hr
def qbv(x:Int):Int×Int:=if -9223372036854775808<=x/\x<9223372036854775808 then (x,0)else (0,6)
def two(p:Int×Int):PV×CG:=(.t [.d (I p.1),.d (I p.2)],false)
def qtU(x:Int):qk7 x=two (qbv x):=by unfold qk7 qbv;split<;>rfl
def qqX(T:Tab)(hT:HT T)(z:Int)(h0 : -170141183460469231731687303715884105728<=z)(h1:z<170141183460469231731687303715884105728):T.val 997 [(Wd z).dv,I 0]=some (two (qbv z)):=by
 have e:=qvL T hT z h0 h1
 rw[qjs]at e;obtain⟨a,ea⟩:∃a,Wd z=a:=⟨_,rfl⟩;rw[ea]at e⊢;rw[qab T (hT 997 qkh rfl) rfl];by_cases h : -9223372036854775808<=z/\z<9223372036854775808
 ·rw[if_pos h]at e;rw[qbv,if_pos h];simp[qkh,Fr.Aa,e,two]
 ·rw[if_neg h]at e;rw[qbv,if_neg h];simp[qkh,Fr.Aa,e,two]
def qSH(T:Tab)(hT:HT T)(b:CG):T.val 996 [.b b]=some (.d (I (if b=true then 1 else 0)),false):=by
 rw[qab T (hT 996 qkg rfl) rfl];cases b with
 |true=>simp[qkg,Fr.Aa]
 |false=>simp[qkg,Fr.Aa]
def okV(v:Ah):CG:=
 if v.Typ=1 then true
 else if v.Typ=2 then decide (-1000000000000<=v.N)&&decide (v.N<=1000000000000)
 else if v.Typ=3 then decide (-1000000000<=v.N)&&decide (v.N<=1000000000)
 else if v.Typ=4 then decide (0<=v.N)&&decide (v.N<=73048)
 else if v.Typ=5 then decide (v.N=0)||decide (v.N=1)
 else false
def qvR(T:Tab)(hT:HT T)(v:Ah):T.val 966 [v.dv]=some (.d (.b (okV v)),false):=by
 rw[qab T (hT 966 qcH rfl) rfl];unfold okV;by_cases h1:v.Typ=1
 ·simp[qcH,Fr.Aa,h1]
 ·have g1:=qad h1
  by_cases h2:v.Typ=2
  ·by_cases c : -1000000000000<=v.N
   ·simp[qcH,Fr.Aa,h2,c]
   ·simp[qcH,Fr.Aa,h2,c]
  ·have g2:=qad h2
   by_cases h3:v.Typ=3
   ·by_cases c : -1000000000<=v.N
    ·simp[qcH,Fr.Aa,h3,c]
    ·simp[qcH,Fr.Aa,h3,c]
   ·have g3:=qad h3
    by_cases h4:v.Typ=4
    ·by_cases c:0<=v.N
     ·simp[qcH,Fr.Aa,h4,c]
     ·simp[qcH,Fr.Aa,h4,c]
    ·have g4:=qad h4
     by_cases h5:v.Typ=5
     ·by_cases c:v.N=0
      ·simp[qcH,Fr.Aa,h5,c]
      ·have g:=qad c
       by_cases d:v.N=1
       ·simp[qcH,Fr.Aa,h5,c,g,d]
       ·have g':=qad d
        simp[qcH,Fr.Aa,h5,c,g,d,g']
     ·have g5:=qad h5
      simp[qcH,Fr.Aa,h1,h2,h3,h4,h5,g1,g2,g3,g4,g5]
def Ah.i(v:Ah):Prop:=-9223372036854775808<=v.N/\v.N<9223372036854775808
def qKZ{x y:Int}(x0 : -9223372036854775808<=x)(x1:x<9223372036854775808)(y0 : -9223372036854775808<=y)(y1:y<9223372036854775808) : -170141183460469231731687303715884105728<=x*y/\x*y<170141183460469231731687303715884105728:=by
 have ha:0<=aI x/\aI x<=9223372036854775808:=by unfold aI;split<;>omega
 have hb:0<=aI y/\aI y<=9223372036854775808:=by unfold aI;split<;>omega
 have p0:0<=aI x*aI y:=Int.mul_nonneg ha.1 hb.1
 have p1:aI x*aI y<=9223372036854775808*9223372036854775808:=qqa ha.2 hb.2 hb.1 (by omega)
 rw[qAQ x y];generalize aI x*aI y=P at *
 split<;>omega
def qnM(a b:Ah):Int×Int:=if a.Typ=b.Typ\/a.Typ=1\/b.Typ=1 then qbv (a.N*b.N)else qbv (qe1 (a.N*b.N) 1000000)
def qSI(T:Tab)(hT:HT T)(a b:Ah)(ha:a.i)(hb:b.i):T.val 998 [a.dv,b.dv]=some (two (qnM a b)):=by
 have e37:=qRr T hT a.N b.N ha.1 ha.2 hb.1 hb.2
 obtain⟨m0,m1⟩:=qKZ ha.1 ha.2 hb.1 hb.2;unfold qnM;generalize a.N*b.N=P at *
 have e36:=qvI T hT P 1000000 m0 m1 (by omega) (by omega)
 have e997:=qqX T hT P m0 m1
 rw[qtU]at e36;generalize Wd P=w at *
 generalize qbv (qe1 P 1000000)=p at *
 generalize qbv P=p2 at *
 unfold two at *
 rw[qab T (hT 998 qhN rfl) rfl];by_cases h1:a.Typ=b.Typ
 ·rw[if_pos (.inl h1)];simp[qhN,Fr.Aa,bne,e37,e36,e997,h1]
 ·have g1:=qad h1
  by_cases h2:a.Typ=1
  ·rw[if_pos (.inr (.inl h2))];rw[h2]at h1 g1;simp[qhN,Fr.Aa,bne,e37,e36,e997,h1,h2,g1]
  ·have g2:=qad h2
   by_cases h3:b.Typ=1
   ·rw[if_pos (.inr (.inr h3))];simp[qhN,Fr.Aa,bne,e37,e36,e997,h2,h3,g2]
   ·have g3:=qad h3
    rw[if_neg (λh=>by rcases h with h|h|h<;>first|exact h1 h|exact h2 h|exact h3 h)]
    simp[qhN,Fr.Aa,bne,e37,e36,e997,h1,h2,h3,g1,g2,g3]
def qjN(a b:Ah):Int×Int:=
 if a.Typ=b.Typ then (if a.N=-9223372036854775808/\b.N=-1 then (0,6)else (IntKind.i64.wrap (a.N.tdiv b.N),0))
 else if b.N=-9223372036854775808 then (0,0)
 else if b.N<0 then qbv (qe1 (IntKind.i64.wrap (-a.N)) (-b.N))else qbv (qe1 a.N b.N)
def qSJ(T:Tab)(hT:HT T)(a b:Ah)(ha:a.i)(hb:b.i)(h0:b.N≠0):T.val 999 [a.dv,b.dv]=some (two (qjN a b)):=by
 unfold Ah.i at ha hb;unfold qjN;rw[qab T (hT 999 qeG rfl) rfl];by_cases h1:a.Typ=b.Typ
 ·rw[if_pos h1];by_cases h2:a.N=-9223372036854775808
  ·by_cases h3:b.N=-1
   ·rw[if_pos ⟨h2,h3⟩];simp[qeG,Fr.Aa,h1,h2,h3,two]
   ·have g3:=qad h3
    rw[if_neg (λh=>h3 h.2)]
    simp[qeG,Fr.Aa,h1,h2,h3,g3,h0,two]
  ·have g2:=qad h2
   rw[if_neg (λh=>h2 h.1)]
   simp[qeG,Fr.Aa,h1,h2,g2,h0,two]
 ·have g1:=qad h1
  rw[if_neg h1];by_cases h2:b.N=-9223372036854775808
  ·rw[if_pos h2];simp[qeG,Fr.Aa,h1,g1,h2,two]
  ·have g2:=qad h2
   rw[if_neg h2];by_cases h3:b.N<0
   ·rw[if_pos h3];obtain⟨m,hm⟩:∃m,IntKind.i64.wrap (-a.N)=m:=⟨_,rfl⟩;have hm2:=hm
    rw[wI]at hm2;have wb:IntKind.i64.wrap (-b.N)=-b.N:=wrI (by omega) (by omega)
    have e44:=qiC T hT m (by omega) (by omega)
    have e36:=qvI T hT m (-b.N) (by omega) (by omega) (by omega) (by omega)
    rw[qtU]at e36;rw[hm];generalize Wd m=w at *
    generalize qbv (qe1 m (-b.N))=p at *
    unfold two at *
    simp[qeG,Fr.Aa,h1,g1,h2,g2,h3,hm,wb,e44,e36]
   ·rw[if_neg h3];have e44:=qiC T hT a.N ha.1 ha.2
    have e36:=qvI T hT a.N b.N (by omega) (by omega) (by omega) (by omega)
    rw[qtU]at e36;generalize Wd a.N=w at *
    generalize qbv (qe1 a.N b.N)=p at *
    unfold two at *
    simp[qeG,Fr.Aa,h1,g1,h2,g2,h3,e44,e36]
def qkE(op:Int)(a b:Ah):Int×Int:=
 if op=5 then qbv (a.N+b.N)else if op=6 then qbv (a.N-b.N)else if op=7 then qnM a b else if b.N=0 then (0,7)else qjN a b
def qQO{x y:Int}(x0 : -9223372036854775808<=x)(x1:x<9223372036854775808)(y0 : -9223372036854775808<=y)(y1:y<9223372036854775808):qdc (x+y)=(.t [.d (Wd (x+y)).dv,.d (I 0)],false)/\qdc (x-y)=(.t [.d (Wd (x-y)).dv,.d (I 0)],false):=by
 constructor<;>rw[qdc,if_pos (by omega)]
def qSF(T:Tab)(hT:HT T)(op:Int)(a b:Ah)(t:CG)(ha:a.i)(hb:b.i)(h9:op≠9):T.val 984 [I op,.l (K1 2) [a.dv,b.dv] t]=some (two (qkE op a b)):=by
 have g9:=qad h9
 unfold Ah.i at *
 obtain⟨s1,s2⟩:=qQO ha.1 ha.2 hb.1 hb.2;have e31:=qDa T hT a.N b.N (by omega) (by omega) (by omega) (by omega)
 have e42:=qDg T hT a.N b.N (by omega) (by omega) (by omega) (by omega)
 rw[s1]at e31;rw[s2]at e42;have ea:=qiC T hT a.N ha.1 ha.2
 have eb:=qiC T hT b.N hb.1 hb.2
 have e1:=qqX T hT (a.N+b.N) (by omega) (by omega)
 have e2:=qqX T hT (a.N-b.N) (by omega) (by omega)
 unfold qkE;rw[qab T (hT 984 qdT rfl) rfl];by_cases h5:op=5
 ·subst h5;rw[if_pos rfl];generalize Wd (a.N+b.N)=w at *
  generalize Wd a.N=wa at *
  generalize Wd b.N=wb at *
  generalize qbv (a.N+b.N)=p at *
  unfold two at *
  simp[qdT,Fr.Aa,ea,eb,e31,e1]
 ·have g5:=qad h5
  rw[if_neg h5];by_cases h6:op=6
  ·subst h6;rw[if_pos rfl];generalize Wd (a.N-b.N)=w at *
   generalize Wd a.N=wa at *
   generalize Wd b.N=wb at *
   generalize qbv (a.N-b.N)=p at *
   unfold two at *
   simp[qdT,Fr.Aa,ea,eb,e42,e2]
  ·have g6:=qad h6
   rw[if_neg h6];by_cases h7:op=7
   ·subst h7;rw[if_pos rfl];have e:=qSI T hT a b ha hb
    generalize qnM a b=p at *
    unfold two at *
    simp[qdT,Fr.Aa,e]
   ·have g7:=qad h7
    rw[if_neg h7];by_cases h0:b.N=0
    ·rw[if_pos h0];simp[qdT,Fr.Aa,h5,h6,h7,h9,g5,g6,g7,g9,h0,two]
    ·have g0:=qad h0
     rw[if_neg h0];have e:=qSJ T hT a b ha hb h0
     generalize qjN a b=p at *
     unfold two at *
     simp[qdT,Fr.Aa,h5,h6,h7,h9,g5,g6,g7,g9,h0,g0,e]
def qSG(T:Tab)(hT:HT T)(a:Ah)(t:CG)(ha:a.i):T.val 984 [I 9,.l (K1 2) [a.dv] t]=some (two (qbv (-a.N))):=by
 unfold Ah.i at *
 have s2:qdc (0-a.N)=(.t [.d (Wd (0-a.N)).dv,.d (I 0)],false):=by rw[qdc,if_pos (by omega)]
 have e42:=qDg T hT 0 a.N (by omega) (by omega) (by omega) (by omega)
 rw[s2]at e42;have e0:=qiC T hT 0 (by omega) (by omega)
 have ea:=qiC T hT a.N ha.1 ha.2
 have e2:=qqX T hT (0-a.N) (by omega) (by omega)
 rw[show qbv (-a.N)=qbv (0-a.N)by rw[Int.zero_sub]]
 generalize Wd (0-a.N)=w at *
 generalize Wd 0=w0 at *
 generalize Wd a.N=wa at *
 generalize qbv (0-a.N)=p at *
 unfold two at *
 rw[qab T (hT 984 qdT rfl) rfl];simp[qdT,Fr.Aa,e0,ea,e42,e2]
def qAA(a b:Int):max a b=if a<b then b else a:=by rw[Int.max_def];split<;>split<;>omega
def qKN{R:Type}{a b:Int}{d:PV->CE R}:bo (mm2 false (.d (I a)) (.d (I b))) (.h d)=d (.d (I (if b<a then b else a))):=by simp[mm2,bo]
def qgf(op a b:Int):Int:=
 if op=10 then (if a=b then 1 else 0)else if op=11 then (if a=b then 0 else 1)else if op=12 then (if a<b then 1 else 0)else if op=13 then (if a<=b then 1 else 0)
 else if op=14 then IntKind.i64.wrap (a*b)else if op=15 then (if a<b then b else a)else if op=17 then (if b<a then b else a)else (if a<b then b else a)
def qSC(T:Tab)(hT:HT T)(op:Int)(a b:Ah)(t:CG)(h1:op≠16)(h2:op≠19):T.val 983 [I op,.l (K1 2) [a.dv,b.dv] t]=some (.d (I (qgf op a.N b.N)),false):=by
 have g1:=qad h1
 have g2:=qad h2
 unfold qgf;have e:=λc=>qSH T hT c
 rw[qab T (hT 983 qbL rfl) rfl];by_cases c1:op=10
 ·subst c1;rw[if_pos rfl]
  by_cases h:a.N=b.N
  ·simp[qbL,Fr.Aa,e,h]
  ·have g:=qad h
   simp[qbL,Fr.Aa,e,h,g]
 have d1:=qad c1
 rw[if_neg c1];by_cases c2:op=11
 ·subst c2;rw[if_pos rfl]
  by_cases h:a.N=b.N
  ·simp[qbL,Fr.Aa,e,h]
  ·have g:=qad h
   simp[qbL,Fr.Aa,e,h,g]
 have d2:=qad c2
 rw[if_neg c2];by_cases c3:op=12
 ·subst c3;rw[if_pos rfl]
  by_cases h:a.N<b.N
  ·simp[qbL,Fr.Aa,e,h]
  ·simp[qbL,Fr.Aa,e,h]
 have d3:=qad c3
 rw[if_neg c3];by_cases c4:op=13
 ·subst c4;rw[if_pos rfl]
  by_cases h:a.N<=b.N
  ·simp[qbL,Fr.Aa,e,h]
  ·simp[qbL,Fr.Aa,e,h]
 have d4:=qad c4
 rw[if_neg c4];by_cases c5:op=14
 ·subst c5;rw[if_pos rfl]
  simp[qbL,Fr.Aa]
 have d5:=qad c5
 rw[if_neg c5];by_cases c6:op=15
 ·subst c6;rw[if_pos rfl]
  simp[qbL,Fr.Aa];exact qAA _ _
 have d6:=qad c6
 rw[if_neg c6];by_cases c7:op=17
 ·subst c7;rw[if_pos rfl]
  simp[qbL,Fr.Aa,↓qKN]
 have d7:=qad c7
 rw[if_neg c7];simp[qbL,Fr.Aa,h1,h2,g1,g2,c1,c2,c3,c4,c5,c6,c7,d1,d2,d3,d4,d5,d6,d7];exact qAA _ _
def qSE(T:Tab)(hT:HT T)(a:Ah)(t:CG):T.val 983 [I 16,.l (K1 2) [a.dv] t]=some (.d (I (IntKind.i64.wrap (1-a.N))),false):=by
 rw[qab T (hT 983 qbL rfl) rfl];simp[qbL,Fr.Aa]
def qSD(T:Tab)(hT:HT T)(a b c:Ah)(t:CG):T.val 983 [I 19,.l (K1 2) [a.dv,b.dv,c.dv] t]=some (.d (I (if a.N=1 then b.N else c.N)),false):=by
 rw[qab T (hT 983 qbL rfl) rfl];by_cases h:a.N=1
 ·simp[qbL,Fr.Aa,h]
 ·have g:=qad h
  simp[qbL,Fr.Aa,h,g]
def qcP(t:Int):CG:=decide (1<=t)&&decide (t<=5)
def qDf(T:Tab)(hT:HT T)(t:Int):T.val 416 [I t]=some (.d (.b (qcP t)),false):=by
 rw[qab T (hT 416 qj5 rfl) rfl];unfold qcP;by_cases h:1<=t
 ·simp[qj5,Fr.Aa,h]
 ·simp[qj5,Fr.Aa,h]
def qcR(op a:Int):Int×CG:=if op=16 then (5,decide (a=5))else if op=9 then (a,decide (a=1)||(decide (a=2)||decide (a=3)))else (0,false)
def qa1(p:Int×CG):PV×CG:=(.t [.d (I p.1),.d (.b p.2)],false)
def qRC(T:Tab)(hT:HT T)(op a:Int):T.val 417 [I op,I a]=some (qa1 (qcR op a)):=by
 rw[qab T (hT 417 qdR rfl) rfl];unfold qcR;by_cases h:op=16
 ·by_cases c:a=5
  ·simp[qdR,Fr.Aa,h,c,qa1]
  ·have g:=qad c
   simp[qdR,Fr.Aa,h,c,g,qa1]
 ·have g:=qad h
  by_cases h2:op=9
  ·by_cases c1:a=1
   ·simp[qdR,Fr.Aa,h,g,h2,c1,qa1]
   ·have g1:=qad c1
    by_cases c2:a=2
    ·simp[qdR,Fr.Aa,h,g,h2,c1,g1,c2,qa1]
    ·have g2:=qad c2
     by_cases c3:a=3
     ·simp[qdR,Fr.Aa,h,g,h2,c1,g1,c2,g2,c3,qa1]
     ·have g3:=qad c3
      simp[qdR,Fr.Aa,h,g,h2,c1,g1,c2,g2,c3,g3,qa1]
  ·have g2:=qad h2
   simp[qdR,Fr.Aa,h,g,h2,g2,qa1]
def arL:CF ((Int×Int×Int)×Int):=[((5,4,1),4),((6,4,1),4),((6,4,4),1),((7,1,1),1),((7,2,3),2),((7,3,2),2),((8,1,1),1),((8,2,2),1),((7,1,2),2),((7,2,1),2),((8,2,1),2),((7,1,3),3),((7,3,1),3),((8,3,1),3),((5,1,1),1),((6,1,1),1),((5,2,2),2),((6,2,2),2),((5,3,3),3),((6,3,3),3)]
def arE(x:(Int×Int×Int)×Int):DV×DV:=(.a [I x.1.1,I x.1.2.1,I x.1.2.2],I x.2)
def arF:CF ((Int×Int×Int)×Int)->Int->Int->Int->CE Int
 |[],_,_,_=>none
 |x::r,op,a,b=>if op=x.1.1/\a=x.1.2.1/\b=x.1.2.2 then some x.2 else arF r op a b
def arV(op a b:Int):Int:=(arF arL op a b).getD 0
def qyv(op a b:Int):∀l,qce (.a [I op,I a,I b]) (l.map arE)=some ((arF l op a b).map λn=>I n)
 |[]=>rfl
 |x::r=>by
  have e:qbo (.a [I op,I a,I b]) (.a [I x.1.1,I x.1.2.1,I x.1.2.2])=some (decide (op=x.1.1/\a=x.1.2.1/\b=x.1.2.2)):=by
   simp only[qbo,qdp,qcO,if_true,Bool.and_true];congr 1
   by_cases h1:op=x.1.1<;>by_cases h2:a=x.1.2.1<;>by_cases h3:b=x.1.2.2<;>simp[h1,h2,h3]
  simp only[zzu,arE,qce,e,arF];by_cases h:op=x.1.1/\a=x.1.2.1/\b=x.1.2.2
  ·simp only[h,decide_true,if_true];simp
  ·simp only[h,decide_false,if_false];exact qyv op a b r
def HA(T:Tab):Prop:=T.ref 421 [] []=some (.h 0,[some (.mp (arL.map arE))])
section
variable {R:Type}{E:Env}{ρ:Ab->PV}{H:CP}{id:Nat}{q:PV->CP->CE R}
def qp7(ky:Ky)(z:DV)(H:CP)(x i:PV){q:PV->CE R}(_:Hd q):CE R:=match i,x with
 |.d k,.h o=>if qeW ky k then match H.obj o with
  |some (.mp es)=>match qce k es with
   |some r=>q (.d (r.getD z))
   |none=>none
  |_=>none
  else none
 |_,_=>none
def qwQ{ky:Ky}{z:DV}{x i:Ab}:bo2 (qaa E ρ H id (.mget ky z false x i)) (.h q)=qp7 ky z H (ρ x) (ρ i) (.h λv=>q v H):=by
 simp only[qaa,qp7];cases ρ i with
 |d k=>
  cases ρ x with
  |h o=>
   simp only;by_cases hk:qeW ky k=true
   ·simp only[hk,if_true];cases H.obj o with
    |none=>rfl
    |some b=>
     cases b with
     |mp es=>
      dsimp only
      cases qce k es<;>rfl
     |_=>rfl
   ·simp only[hk,if_false,zzg];rfl
  |_=>rfl
 |_=>cases ρ x<;>rfl
def qKH{op a b:Int}{q:PV->CE R}:qp7 (.st [1,1,1]) (I 0) [some (.mp (arL.map arE))] (.h 0) (.d (.a [I op,I a,I b])) (.h q)=q (.d (I (arV op a b))):=by
 have e:=qyv op a b arL
 simp only[qp7,qeW,qii,qk0,Bool.and_true,if_true,Heap.obj,List.getElem?_cons_zero,Option.join,e];unfold arV;cases arF arL op a b<;>rfl
end
def qcE(op a b:Int):Int×CG:=
 if op=10\/op=11 then (5,decide (a=b))else if op=12\/op=13 then (5,decide (a=b) && !decide (a=5))
 else if op=14\/op=15 then (5,decide (a=b)&&decide (a=5))else if op=17\/op=18 then (a,decide (a=b) && !decide (a=5))
 else (arV op a b,!decide (arV op a b=0))
def qRD(T:Tab)(hT:HT T)(hA:HA T)(op a b:Int):T.val 418 [I op,I a,I b]=some (qa1 (qcE op a b)):=by
 have hA':T.ref 421 [] []=some (.h 0,[some (.mp (arL.map arE))]):=hA
 rw[qab T (hT 418 qcj rfl) rfl];unfold qcE;by_cases h1:op=10\/op=11
 ·rw[if_pos h1];by_cases c:a=b
  ·rcases h1 with h1|h1<;>subst h1<;>simp[qcj,Fr.Aa,c,qa1]
  ·have g:=qad c
   rcases h1 with h1|h1<;>subst h1<;>simp[qcj,Fr.Aa,c,g,qa1]
 rw[if_neg h1];by_cases h2:op=12\/op=13
 ·rw[if_pos h2];by_cases c:a=b
  ·by_cases d:a=5
   ·subst d;subst c
    rcases h2 with h1|h1<;>subst h1<;>simp[qcj,Fr.Aa,qa1]
   ·have g:=qad d
    subst c;rcases h2 with h1|h1<;>subst h1<;>simp[qcj,Fr.Aa,d,g,bne,qa1]
  ·have g:=qad c
   rcases h2 with h1|h1<;>subst h1<;>simp[qcj,Fr.Aa,c,g,qa1]
 rw[if_neg h2];by_cases h3:op=14\/op=15
 ·rw[if_pos h3];by_cases c:a=b
  ·by_cases d:a=5
   ·subst d;subst c
    rcases h3 with h1|h1<;>subst h1<;>simp[qcj,Fr.Aa,qa1]
   ·have g:=qad d
    subst c;rcases h3 with h1|h1<;>subst h1<;>simp[qcj,Fr.Aa,d,g,qa1]
  ·have g:=qad c
   rcases h3 with h1|h1<;>subst h1<;>simp[qcj,Fr.Aa,c,g,qa1]
 rw[if_neg h3];by_cases h4:op=17\/op=18
 ·rw[if_pos h4];by_cases c:a=b
  ·by_cases d:a=5
   ·subst d;subst c
    rcases h4 with h1|h1<;>subst h1<;>simp[qcj,Fr.Aa,qa1]
   ·have g:=qad d
    subst c;rcases h4 with h1|h1<;>subst h1<;>simp[qcj,Fr.Aa,d,g,bne,qa1]
  ·have g:=qad c
   rcases h4 with h1|h1<;>subst h1<;>simp[qcj,Fr.Aa,c,g,qa1]
 rw[if_neg h4];have n10:=qad (show ¬op=10 from λh=>h1 (.inl h))
 have n11:=qad (show ¬op=11 from λh=>h1 (.inr h))
 have n12:=qad (show ¬op=12 from λh=>h2 (.inl h))
 have n13:=qad (show ¬op=13 from λh=>h2 (.inr h))
 have n14:=qad (show ¬op=14 from λh=>h3 (.inl h))
 have n15:=qad (show ¬op=15 from λh=>h3 (.inr h))
 have n17:=qad (show ¬op=17 from λh=>h4 (.inl h))
 have n18:=qad (show ¬op=18 from λh=>h4 (.inr h))
 have mg:=λd=>@qKH (PV×CG) op a b d
 generalize arL.map arE=es at *
 generalize arV op a b=v at *
 by_cases c:v=0
 ·subst c;simp[qcj,Fr.Aa,n10,n11,n12,n13,n14,n15,n17,n18,hA',↓qwQ,↓mg,↓qay,↓qaC,↓qaB,putAt,mkA,qaf,qau,qaQ,qaw,qa1]
 ·have g:=qad c
  simp[qcj,Fr.Aa,n10,n11,n12,n13,n14,n15,n17,n18,hA',↓qwQ,↓mg,↓qay,↓qaC,↓qaB,putAt,mkA,qaf,qau,qaQ,qaw,c,g,bne,qa1]
def qJJ(T:Tab)(hT:HT T)(op:Int)(z:Cw)(t:CG)(hn:z.length<=maxLen){k:KC (PV×CG)}{r:Cz}{fr:Fr}{H:CP}(hr:∀fr H,fr.get 4=.d (I 0)->fr.get 5=.d (.b false)->qan fr=[]->k .ret fr H=r)
  (h0:gc [0,1,10,11,12] 0 ⟨fr,H⟩=⟨[(12,.d (I 0)),(11,.d (I z.length)),(10,.d (.l K0 (z.map λn=>I n) t)),(1,.d (.l K0 (z.map λn=>I n) t)),(0,.d (I op))],[]⟩) :
  kC T.env 0 fr H (.h (.loop [0,1,10,11,12] qov,k))=if z.all qcP=true then k (.exit 0) ((13,.d (.b false))::[(12,.d (I z.length)),(11,.d (I z.length)),(10,.d (.l K0 (z.map λn=>I n) t)),(1,.d (.l K0 (z.map λn=>I n) t)),(0,.d (I op))]) []else r:=by
 rw[qbi z (λi _=>⟨[(12,.d (I i)),(11,.d (I z.length)),(10,.d (.l K0 (z.map λn=>I n) t)),(1,.d (.l K0 (z.map λn=>I n) t)),(0,.d (I op))],[]⟩) (λ_ _=>True) (λi _ p c=>if qcP p=true then c ()else r) (λ_=>k (.exit 0) ((13,.d (.b false))::[(12,.d (I z.length)),(11,.d (I z.length)),(10,.d (.l K0 (z.map λn=>I n) t)),(1,.d (.l K0 (z.map λn=>I n) t)),(0,.d (I op))]) []) ?_ ?_ h0 trivial]
 ·rw[qht qcP r];exact λ_ _ _ _=>rfl
 ·intro B _ _ _;simp[qov]
 ·intro B _ i _ hi _ c hc;have hm:=mxl
  have h1:(i:Int)<z.length:=by omega
  have h3:=wr1 (i:=i) (by omega)
  have e:=qDf T hT z[i]
  cases hk:qcP z[i]with
  |true=>
   rw[hk]at e;simp[qov,h1,hi,e,zzj,h3];exact hc () _ _ trivial (by simp)
  |false=>
   rw[hk]at e;simp[qov,h1,hi,e,zzj,h3];exact hr _ _ (by simp[Fr.get]) (by simp[Fr.get]) (by simp[qan,gh])
def qbH(op:Int)(ts:Cw):Int×CG:=
 if ts.all qcP=true then
  match ts with
  |[a]=>if (qcR op a).2=true then ((qcR op a).1,true)else (0,false)
  |[a,b]=>if (qcE op a b).2=true then ((qcE op a b).1,true)else (0,false)
  |[a,b,c]=>if op=19/\a=5/\b=c then (b,true)else (0,false)
  |_=>(0,false)
 else (0,false)
def qqT(T:Tab)(hT:HT T)(hA:HA T)(op:Int)(ts:Cw)(t:CG)(hn:ts.length<=maxLen):T.val 411 [I op,.l K0 (ts.map λn=>I n) t]=some (qa1 (qbH op ts)):=by
 rw[qab T (hT 411 F411 rfl) rfl];have lp:=λk fr H=>@qJJ T hT op ts t hn k (some (qa1 (0,false))) fr H
 obtain⟨r,hr⟩:∃r,some (qa1 (qbH op ts))=r:=⟨_,rfl⟩;rw[hr];unfold qbH at hr;simp[F411,Fr.Aa];rw[lp]
 ·by_cases ha:ts.all qcP=true
  ·rw[if_pos ha];rw[if_pos ha]at hr;rw[<-hr];clear hr lp ha
   simp only[blK,sqK];have hm:=mxl
   match ts,hn with
   |[],_=>
    show _=some (qa1 (0,false))
    simp[qa1]
   |[a],_=>
    show _=some (qa1 (if (qcR op a).2=true then ((qcR op a).1,true)else (0,false)))
    have e:=qRC T hT op a
    unfold qa1 at *
    generalize qcR op a=p at *
    obtain⟨p1,p2⟩:=p;cases p2 with
    |true=>simp[e]
    |false=>simp[e]
   |[a,b],_=>
    show _=some (qa1 (if (qcE op a b).2=true then ((qcE op a b).1,true)else (0,false)))
    have e:=qRD T hT hA op a b
    unfold qa1 at *
    generalize qcE op a b=p at *
    obtain⟨p1,p2⟩:=p;cases p2 with
    |true=>simp[e]
    |false=>simp[e]
   |[a,b,c],_=>
    show _=some (qa1 (if op=19/\a=5/\b=c then (b,true)else (0,false)))
    by_cases h1:op=19
    ·by_cases h2:a=5
     ·by_cases h3:b=c
      ·simp[h1,h2,h3,qa1]
      ·have g3:=qad h3
       simp[h1,h2,h3,g3,qa1]
     ·have g2:=qad h2
      simp[h1,h2,g2,qa1]
    ·have g1:=qad h1
     simp[h1,g1,qa1]
   |a::b::c::d::l,hn=>
    show _=some (qa1 (0,false))
    have g1:((l.length:Int)+1+1+1+1==1)=false:=qad (by omega)
    have g2:((l.length:Int)+1+1+1+1==2)=false:=qad (by omega)
    have g3:((l.length:Int)+1+1+1+1==3)=false:=qad (by omega)
    have f1:¬((l.length:Int)+1+1+1+1=1):=by omega
    have f2:¬((l.length:Int)+1+1+1+1=2):=by omega
    have f3:¬((l.length:Int)+1+1+1+1=3):=by omega
    simp[g1,g2,g3,f1,f2,f3,qa1]
  ·rw[if_neg ha];rw[if_neg ha]at hr;exact hr
 ·intro fr H h1 h2 h3;simp[h1,h2,h3,qa1]
 ·simp[Fr.drop]
def qbx(k:K)(bs:CP):Ct->CP
 |[]=>bs
 |x::r=>some (.sl k 0 (x::r))::bs
def pB(i:Nat):Ct->PV
 |[]=>.p i 0 0
 |_::_=>.p (i+1) 0 0
def qvC{α:Type}(f:α->DV)(l:CF α)(i:Nat)(h:i<l.length):(l.take (i+1)).map f=(l.take i).map f++[f l[i]]:=by
 rw[zzw h,List.map_append,zzu,List.map_nil]
def qKr(T:Tab)(op:Int)(vs:CF Ah)(t:CG)(z:DV)(hn:vs.length*56<=140737488355328){k:KC (PV×CG)}{r:Cz}{fr:Fr}{H:CP}
  (he:k (.exit 0) [(19,.d (.b false)),(18,.d (I vs.length)),(17,.d (I vs.length)),(16,.d (.l (K1 2) (vs.map Ah.dv) t)),(6,qai K0 (vs.map λv=>I v.Typ)),(4,pB 0 (vs.map λv=>I v.Typ)),(1,.d (.l (K1 2) (vs.map Ah.dv) t)),(0,.d (I op))] (qbx K0 [some (.box (K1 2) (.d z))] (vs.map λv=>I v.Typ))=r)
  (h0:gc [0,1,4,6,16,17,18] 0 ⟨fr,H⟩=⟨[(18,.d (I 0)),(17,.d (I vs.length)),(16,.d (.l (K1 2) (vs.map Ah.dv) t)),(6,.d (.l K0 [] true)),(4,.p 0 0 0),(1,.d (.l (K1 2) (vs.map Ah.dv) t)),(0,.d (I op))],[some (.box (K1 2) (.d z))]⟩) :
  kC T.env 0 fr H (.h (.loop [0,1,4,6,16,17,18] qoG,k))=r:=by
 refine qil (λp:Nat×Ct=>⟨[(18,.d (I p.1)),(17,.d (I vs.length)),(16,.d (.l (K1 2) (vs.map Ah.dv) t)),(6,qai K0 p.2),(4,pB 0 p.2),(1,.d (.l (K1 2) (vs.map Ah.dv) t)),(0,.d (I op))],qbx K0 [some (.box (K1 2) (.d z))] p.2⟩) (λi=>(i,(vs.take i).map λv=>I v.Typ)) vs.length ?_ ?_ (by rw[h0];rfl)
 ·intro B _;simp only[List.take_length];rw[<-he];have h1:¬((vs.length:Int)<vs.length):=by omega
  simp[qoG]
 ·intro B _ i hi c hc;have h1:(i:Int)<vs.length:=by omega
  have h3:=wr1 (i:=i) (by omega)
  have hl:((vs.take i).map λv=>I v.Typ).length<=i:=by simp;omega
  simp only[qvC (λv:Ah=>I v.Typ) vs i hi]at hc
  simp only;generalize (vs.take i).map (λv=>I v.Typ)=o at *
  cases o with
  |nil=>
   simp only[qai,qbx,pB,List.nil_append]at hc⊢;simp[qoG,h1,hi,h3,zzj];exact hc _ _ (by simp)
  |cons x o=>
   simp only[qai,qbx,pB,List.cons_append]at hc⊢;simp only[zzn]at hl;have h5:(o.length+1+1)*8<=140737488355328:=by omega
   have ht:o.take o.length=o:=zzv (by simp)
   simp[qoG,h1,hi,h3,h5,ht,zzj];exact hc _ _ (by simp)
def qKs(T:Tab)(hT:HT T)(op w:Int)(vs:CF Ah)(t:CG)(z:DV)(hn:vs.length*56<=140737488355328){k:KC (PV×CG)}{r:Cz}{fr:Fr}{H:CP}
  (he:vs.all okV=true->k (.exit 2) [(40,.d (.b false)),(39,.d (I vs.length)),(38,.d (I vs.length)),(37,.d (.l (K1 2) (vs.map Ah.dv) t)),(9,.d (I w)),(4,.p 0 0 0),(1,.d (.l (K1 2) (vs.map Ah.dv) t)),(0,.d (I op))] [some (.box (K1 2) (.d z))]=r)
  (hr:vs.all okV=false->∀fr J,fr.get 4=.p 0 0 0->fr.get 5=.d (I 1)->qan fr=[]->k .ret fr (some (.box (K1 2) (.d (.a [I 0,I 0])))::J)=r)
  (h0:gc [0,1,4,9,37,38,39] 0 ⟨fr,H⟩=⟨[(39,.d (I 0)),(38,.d (I vs.length)),(37,.d (.l (K1 2) (vs.map Ah.dv) t)),(9,.d (I w)),(4,.p 0 0 0),(1,.d (.l (K1 2) (vs.map Ah.dv) t)),(0,.d (I op))],[some (.box (K1 2) (.d z))]⟩) :
  kC T.env 0 fr H (.h (.loop [0,1,4,9,37,38,39] qoH,k))=r:=by
 refine qc7 (λi:Nat=>⟨[(39,.d (I i)),(38,.d (I vs.length)),(37,.d (.l (K1 2) (vs.map Ah.dv) t)),(9,.d (I w)),(4,.p 0 0 0),(1,.d (.l (K1 2) (vs.map Ah.dv) t)),(0,.d (I op))],[some (.box (K1 2) (.d z))]⟩) (λi=>i<=vs.length/\(vs.take i).all okV=true) (λi=>vs.length-i) ?_ 0 ⟨zzK _,by simp⟩ h0
 rintro B-i ⟨hi,ha⟩ hx;by_cases hlt:i<vs.length
 ·have h1:(i:Int)<vs.length:=by omega
  have h3:=wr1 (i:=i) (by omega)
  have e:=qvR T hT vs[i]
  cases hk:okV vs[i]with
  |true=>
   rw[hk]at e;have hx':=hx (i+1) ⟨by omega,by rw[zzw hlt,List.all_append,ha];simp[hk]⟩ (by omega)
   simp[qoH,h1,hlt,e,zzj,h3];exact hx' _ _ (by simp)
  |false=>
   rw[hk]at e;have hf:vs.all okV=false:=by
    rw[List.all_eq_false];exact⟨vs[i],zzs hlt,by simp[hk]⟩
   have hr':=hr hf
   simp[qoH,h1,hlt,e,zzj,h3,↓qay,↓qaC,↓qaB,putAt,mkA,qaf,qau,qaQ,qaw];exact hr' _ _ (by simp[Fr.get]) (by simp[Fr.get]) (by simp[qan,gh])
 ·have:i=vs.length:=by omega
  subst this;rw[List.take_length]at ha;have he':=he ha
  have h1:¬((vs.length:Int)<vs.length):=by omega
  simp[qoH];exact he'
def chP(op:Int):CF Ah->Int
 |[a]=>IntKind.i64.wrap (1-a.N)
 |[a,b]=>qgf op a.N b.N
 |[a,b,c]=>if a.N=1 then b.N else c.N
 |_=>0
def clP(op:Int):CF Ah->Int×Int
 |[a]=>qbv (-a.N)
 |[a,b]=>qkE op a b
 |_=>(0,0)
def qkz(w:Int)(ok:CG)(op:Int)(vs:CF Ah):Ah×Int:=
 if ok=false then (⟨0,0⟩,3)else if vs.all okV=false then (⟨0,0⟩,1)
 else if op<5\/9<op then (⟨w,chP op vs⟩,0)
 else if (clP op vs).2=0 then (if okV ⟨w,(clP op vs).1⟩=true then (⟨w,(clP op vs).1⟩,0)else (⟨0,0⟩,6))
 else (⟨0,0⟩,(clP op vs).2)
def qeJ(op:Int)(vs:CF Ah):Ah×Int:=qkz (qbH op (vs.map (·.Typ))).1 (qbH op (vs.map (·.Typ))).2 op vs
def qa9(p:Ah×Int):PV×CG:=(.t [.d p.1.dv,.d (I p.2)],false)
def qwJ{op a b:Int}:∀{l},(∀x∈l,(5:Int)<=x.1.1/\x.1.1<=8)->arF l op a b≠none->5<=op/\op<=8
 |[],_,h=>absurd rfl h
 |x::r,hl,h=>by
  rw[arF]at h;by_cases c:op=x.1.1/\a=x.1.2.1/\b=x.1.2.2
  ·have:=hl x (by simp)
   omega
  ·rw[if_neg c]at h;exact qwJ (λy hy=>hl y (by simp[hy])) h
def qwK{op a b:Int}(h:arV op a b≠0):5<=op/\op<=8:=by
 apply qwJ (l:=arL) (a:=a) (b:=b)
 ·decide
 ·intro c;rw[arV,c]at h;exact h rfl
def qCZ{op a b:Int}(h:(qcE op a b).2=true):op≠9/\op≠16/\op≠19:=by
 unfold qcE at h;by_cases h1:op=10\/op=11
 ·omega
 rw[if_neg h1]at h;by_cases h2:op=12\/op=13
 ·omega
 rw[if_neg h2]at h;by_cases h3:op=14\/op=15
 ·omega
 rw[if_neg h3]at h;by_cases h4:op=17\/op=18
 ·omega
 rw[if_neg h4]at h;have h:arV op a b≠0:=by simpa using h
 have:=qwK h
 omega
def qBa{op a:Int}(h:(qcR op a).2=true):op=9\/op=16:=by
 unfold qcR at h;by_cases h1:op=16
 ·exact .inr h1
 ·rw[if_neg h1]at h;by_cases h2:op=9
  ·exact .inl h2
  ·rw[if_neg h2]at h;cases h
def qET(T:Tab)(hT:HT T)(op:Int)(vs:CF Ah)(t:CG)(hi:∀v∈vs,v.i)(h:(qbH op (vs.map (·.Typ))).2=true) :
  ((op<5\/9<op)->T.val 983 [I op,.l (K1 2) (vs.map Ah.dv) t]=some (.d (I (chP op vs)),false))/\(¬(op<5\/9<op)->T.val 984 [I op,.l (K1 2) (vs.map Ah.dv) t]=some (two (clP op vs))):=by
 unfold qbH at h;by_cases ha:(vs.map (·.Typ)).all qcP=true
 ·rw[if_pos ha]at h;match vs,hi,h with
  |[],_,h=>cases h
  |[a],hi,h=>
   simp only[zzu,List.map_nil]at h⊢;have ho:(qcR op a.Typ).2=true:=by
    by_cases c:(qcR op a.Typ).2=true
    ·exact c
    ·rw[if_neg c]at h;cases h
   have:=qBa ho
   refine⟨λh1=>?_,λh1=>?_⟩
   ·have:op=16:=by omega
    subst this;exact qSE T hT a t
   ·have:op=9:=by omega
    subst this;exact qSG T hT a t (hi a (by simp))
  |[a,b],hi,h=>
   simp only[zzu,List.map_nil]at h⊢;have ho:(qcE op a.Typ b.Typ).2=true:=by
    by_cases c:(qcE op a.Typ b.Typ).2=true
    ·exact c
    ·rw[if_neg c]at h;cases h
   obtain⟨o1,o2,o3⟩:=qCZ ho;exact⟨λ_=>qSC T hT op a b t o2 o3,λ_=>qSF T hT op a b t (hi a (by simp)) (hi b (by simp)) o1⟩
  |[a,b,c],hi,h=>
   simp only[zzu,List.map_nil]at h⊢;have ho:op=19:=by
    by_cases c':op=19/\a.Typ=5/\b.Typ=c.Typ
    ·exact c'.1
    ·rw[if_neg c']at h;cases h
   subst ho;exact⟨λ_=>qSD T hT a b c t,λh1=>absurd (.inr (by decide)) h1⟩
  |_::_::_::_::_,_,h=>cases h
 ·rw[if_neg ha]at h;cases h
def qhf(l:Ct):(PV.d (.a l)).cells=l.map .d:=rfl
def qgk(l:Ct):DV.cells (.a l)=l:=rfl
def qjx{R:Type}{a b:DV}{q:PV->CE R}:bo (mkP (K1 2) [.d a,.d b]) (.h q)=q (.d (.a [a,b])):=rfl
def qSB(T:Tab)(hT:HT T)(hA:HA T)(op:Int)(vs:CF Ah)(t:CG)(hn:vs.length*56<=140737488355328)(hi:∀v∈vs,v.i):T.val 967 [I op,.l (K1 2) (vs.map Ah.dv) t]=some (qa9 (qeJ op vs)):=by
 have lp0:=λk r fr H=>@qKr T op vs t (.a [I 0,I 0]) hn k r fr H
 have lp1:=λw k r fr H=>@qKs T hT op w vs t (.a [I 0,I 0]) hn k r fr H
 have hm:=mxl
 have e411:=qqT T hT hA op (vs.map (·.Typ)) false (by rw[zzo,hm];omega)
 have e411t:=qqT T hT hA op (vs.map (·.Typ)) true (by rw[zzo,hm];omega)
 rw[List.map_map]at e411 e411t;have hp:=qET T hT op vs t hi
 unfold qeJ;have hmm:((λn=>I n)∘λv:Ah=>v.Typ)=λv:Ah=>I v.Typ:=rfl
 rw[hmm]at e411 e411t;generalize qbH op (vs.map (·.Typ))=p at *
 obtain⟨w,ok⟩:=p;unfold qa1 at e411 e411t;simp only at hp e411 e411t⊢;obtain⟨r,hr⟩:∃r,some (qa9 (qkz w ok op vs))=r:=⟨_,rfl⟩;rw[qab T (hT 967 F967 rfl) rfl,hr];simp[F967,Fr.Aa];refine lp0 _ _ _ _ ?_ (by simp)
 cases ho:vs.map (λv=>I v.Typ)with
 |nil=>
  have hv:vs=[]:=by simpa using ho
  subst hv;simp only[List.map_nil]at e411t;cases ok with
  |false=>
   rw[qkz,if_pos rfl]at hr;rw[<-hr];simp[qai,qbx,pB,e411t,↓qay,↓qaC,↓qaB,putAt,mkA,qaf,qau,qaQ,qaw,qhf,qjx,qgk,qa9,Ah.dv]
  |true=>
   exfalso
   have:=e411t
   have e0:=qqT T hT hA op [] true (by simp)
   simp only[List.map_nil]at e0;rw[e0]at this;simp[qbH,qa1]at this
 |cons x o=>
  rw[ho]at e411;have ht:o.take o.length=o:=zzv (by simp)
  cases ok with
  |false=>
   rw[qkz,if_pos rfl]at hr;rw[<-hr];simp[qai,qbx,pB,ht,qaK,pur,qaW,PV.AX,PV.AV,DV.AX,DV.AV,e411,↓qay,↓qaC,↓qaB,putAt,mkA,qaf,qau,qaQ,qaw,qhf,qjx,qgk,qa9,Ah.dv]
  |true=>
   obtain⟨p1,p2⟩:=hp rfl;rw[qkz,if_neg (by decide)]at hr
   simp[qai,qbx,pB,ht,qaK,pur,qaW,PV.AX,PV.AV,DV.AX,DV.AV,e411];refine lp1 w _ _ _ _ (λha=>?_) (λha fr J f4 f5 fg=>?_) (by simp)
   ·rw[if_neg (by rw[ha];decide)]at hr
    by_cases h5:op<5
    ·rw[if_pos (.inl h5)]at hr;rw[<-hr];have e:=p1 (.inl h5)
     simp[h5,e,↓qay,↓qaC,↓qaB,putAt,mkA,qaf,qau,qaQ,qaw,qhf,qjx,qgk,qa9,Ah.dv]
    ·by_cases h9:9<op
     ·rw[if_pos (.inr h9)]at hr;rw[<-hr];have e:=p1 (.inr h9)
      simp[h5,h9,e,↓qay,↓qaC,↓qaB,putAt,mkA,qaf,qau,qaQ,qaw,qhf,qjx,qgk,qa9,Ah.dv]
     ·rw[if_neg (by omega)]at hr
      rw[<-hr];clear hr
      have e:=p2 (by omega)
      generalize clP op vs=q at *
      obtain⟨n,f⟩:=q;unfold two at e;simp only at e⊢;have e3:=qvR T hT ⟨w,n⟩
      rw[Ah.dv]at e3;simp only at e3;by_cases hf:f=0
      ·subst hf;rw[if_pos rfl];cases hk:okV ⟨w,n⟩with
       |true=>
        rw[hk]at e3;simp[h5,h9,e,e3,↓qay,↓qaC,↓qaB,putAt,mkA,qaf,qau,qaQ,qaw,qhf,qjx,qgk,qa9,Ah.dv]
       |false=>
        rw[hk]at e3;simp[h5,h9,e,e3,↓qay,↓qaC,↓qaB,putAt,mkA,qaf,qau,qaQ,qaw,qhf,qjx,qgk,qa9,Ah.dv]
      ·have gf:=qad hf
       rw[if_neg hf];simp[h5,h9,e,hf,gf,bne,↓qay,↓qaC,↓qaB,putAt,mkA,qaf,qau,qaQ,qaw,qhf,qjx,qgk,qa9,Ah.dv]
   ·rw[if_pos ha]at hr;rw[<-hr];simp[f4,f5,fg,qa9,Ah.dv]
def Ans{R:Type}(Q:R->Prop)(x:CE R):Prop:=∃r,x=some r/\Q r
def qmT{R:Type}{Q:R->Prop}{c:CG}{x y:CE R}(h1:c=true->Ans Q x)(h2:c=false->Ans Q y):Ans Q (brn c (.h (x,y))):=by
 cases c with
 |true=>exact h1 rfl
 |false=>exact h2 rfl
def qbz{R:Type}{Q:R->Prop}{r:R}(h:Q r):Ans Q (some r):=⟨r,rfl,h⟩
def IsI(r:PV×CG):Prop:=∃n:Int,r=(.d (I n),false)
def IsB(r:PV×CG):Prop:=∃b:CG,r=(.d (.b b),false)
def qy6{x:Cz}(h:Ans IsI x):∃n:Int,x=some (.d (I n),false):=by obtain⟨r,h1,n,h2⟩:=h;exact⟨n,by rw[h1,h2]⟩
def qHx{x:Cz}(h:Ans IsB x):∃b:CG,x=some (.d (.b b),false):=by obtain⟨r,h1,n,h2⟩:=h;exact⟨n,by rw[h1,h2]⟩
def qdL(op:Int):Int:=if op=1\/op=2\/op=3\/op=4 then 0 else if op=9\/op=16 then 1 else if op=19 then 3 else if 5<=op/\op<=18 then 2 else -1
def qjB(op:Int):Int:=if op=1 then 9223372036854775807 else if op=2 then 1000000000000 else if op=3 then 1000000 else 0
def qyj(x:Ag):CG:=qdL x.Op==(x.A8.l.length:Int)&&decide (0<=x.N)&&decide (x.N<=qjB x.Op)&&(x.S==[]||x.Op==4)
def qRA(T:Tab)(hT:HT T)(op:Int):T.val 414 [I op]=some (.d (I (qdL op)),false):=by
 rw[qab T (hT 414 qcV rfl) rfl];by_cases c1:op=1
 ·subst c1;rw[show qdL 1=0 from rfl]
  simp[qcV,Fr.Aa]
 have d1:=qad c1
 by_cases c2:op=2
 ·subst c2;rw[show qdL 2=0 from rfl]
  simp[qcV,Fr.Aa]
 have d2:=qad c2
 by_cases c3:op=3
 ·subst c3;rw[show qdL 3=0 from rfl]
  simp[qcV,Fr.Aa]
 have d3:=qad c3
 by_cases c4:op=4
 ·subst c4;rw[show qdL 4=0 from rfl]
  simp[qcV,Fr.Aa]
 have d4:=qad c4
 by_cases c9:op=9
 ·subst c9;rw[show qdL 9=1 from rfl]
  simp[qcV,Fr.Aa]
 have d9:=qad c9
 by_cases c16:op=16
 ·subst c16;rw[show qdL 16=1 from rfl]
  simp[qcV,Fr.Aa]
 have d16:=qad c16
 by_cases c19:op=19
 ·subst c19;rw[show qdL 19=3 from rfl]
  simp[qcV,Fr.Aa]
 have d19:=qad c19
 rw[qdL,if_neg (by omega),if_neg (by omega),if_neg c19]
 by_cases h1:5<=op
 ·by_cases h2:op<=18
  ·rw[if_pos ⟨h1,h2⟩];simp[qcV,Fr.Aa,c1,d1,c2,d2,c3,d3,c4,d4,c9,d9,c16,d16,c19,d19,h1,h2]
  ·rw[if_neg (λh=>h2 h.2)]
   simp[qcV,Fr.Aa,c1,d1,c2,d2,c3,d3,c4,d4,c9,d9,c16,d16,c19,d19,h1,h2]
 ·rw[if_neg (λh=>h1 h.1)]
  simp[qcV,Fr.Aa,c1,d1,c2,d2,c3,d3,c4,d4,c9,d9,c16,d16,c19,d19,h1]
def qRx(T:Tab)(hT:HT T)(x:Ag):T.val 408 [x.dv]=some (.d (.b (qyj x)),false):=by
 have e:=qRA T hT x.Op
 have hop:(x.Op=1/\qjB x.Op=9223372036854775807)\/(x.Op=2/\qjB x.Op=1000000000000)\/(x.Op=3/\qjB x.Op=1000000)\/(x.Op≠1/\x.Op≠2/\x.Op≠3/\qjB x.Op=0):=by
  unfold qjB;by_cases c1:x.Op=1
  ·exact .inl ⟨c1,if_pos c1⟩
  ·by_cases c2:x.Op=2
   ·exact .inr (.inl ⟨c2,by rw[if_neg c1,if_pos c2]⟩)
   ·by_cases c3:x.Op=3
    ·exact .inr (.inr (.inl ⟨c3,by rw[if_neg c1,if_neg c2,if_pos c3]⟩))
    ·exact .inr (.inr (.inr ⟨c1,c2,c3,by rw[if_neg c1,if_neg c2,if_neg c3]⟩))
 obtain⟨o,n,s,a⟩:=x;unfold qyj;simp only at e hop⊢;generalize qjB o=M at *
 obtain⟨r,hr⟩:∃r:Cz,some (.d (.b (qdL o==(a.l.length:Int)&&decide (0<=n)&&decide (n<=M)&&(s==[]||o==4))),false)=r:=⟨_,rfl⟩;rw[qab T (hT 408 qhH rfl) rfl,hr];generalize qdL o=q at *
 rcases hop with ⟨rfl,rfl⟩|⟨rfl,rfl⟩|⟨rfl,rfl⟩|⟨n1,n2,n3,rfl⟩
 ·simp[qhH,Fr.Aa,e];rw[<-hr];repeat' (refine qaX (λh=>?_) (λh=>?_)<;>(try simp at h)<;>(try simp[h,e]))
  all_goals (intros;omega)
 ·simp[qhH,Fr.Aa,e];rw[<-hr];repeat' (refine qaX (λh=>?_) (λh=>?_)<;>(try simp at h)<;>(try simp[h,e]))
  all_goals (intros;omega)
 ·simp[qhH,Fr.Aa,e];rw[<-hr];repeat' (refine qaX (λh=>?_) (λh=>?_)<;>(try simp at h)<;>(try simp[h,e]))
  all_goals (intros;omega)
 ·have g1:=qad n1
  have g2:=qad n2
  have g3:=qad n3
  simp[qhH,Fr.Aa,e,g1,g2,g3];rw[<-hr];repeat' (refine qaX (λh=>?_) (λh=>?_)<;>(try simp at h)<;>(try simp[h,e]))
  all_goals (intros;omega)
def qi8{α β:Type}[Nonempty β]{l:CF α}{P:α->β->Prop}(h:∀a∈l,∃b,P a b):∃g:α->β,∀a∈l,P a (g a):=
 ⟨λa=>Classical.epsilon (P a),λa ha=>Classical.epsilon_spec (h a ha)⟩
def qnA{x:Ag}{l:CF Ag}(h:x.A8.l=l.map Ag.dv){a:Ag}(ha:a∈l):SizeOf.sizeOf a.dv<SizeOf.sizeOf x.dv:=by
 have:=List.sizeOf_lt_of_mem (List.mem_map_of_mem (f:=Ag.dv) ha)
 rw[<-h]at this;simp only[Ag.dv,DV.a.sizeOf_spec,List.cons.sizeOf_spec,DV.l.sizeOf_spec]at this⊢;omega
def qnB{x:Ag}(hx:x.ok):∃l:CF Ag,x.A8.l=l.map Ag.dv/\(∀a∈l,a.ok)/\l.length*56<=140737488355328:=by
 obtain⟨o,m,s,a⟩:=x;obtain⟨a,t⟩:=a;obtain⟨_,_,_,hX⟩:=hx;simp only at hX;obtain⟨h1,l,h2,h3⟩:=qrN hX;refine⟨l,h2,h3,?_⟩;cases hX with|mk _ _ _ h=>rw[h2]at h;simpa[qbf]using h
def qJZ(T:Tab)(l:CF Ag)(t:CG)(g:Ag->Int)(hg:∀a∈l,T.val 405 [a.dv]=some (.d (I (g a)),false))(hn:l.length*56<=140737488355328){k:KC (PV×CG)}{r:Cz}{fr:Fr}{H:CP}
  (he:k (.exit 0) [(10,.d (.b false)),(9,.d (I l.length)),(8,.d (I l.length)),(7,.d (.l (K1 4) (l.map Ag.dv) t)),(3,.d (I (l.foldl (λn a=>IntKind.i64.wrap (n+g a)) 1)))] []=r)
  (h0:gc [3,7,8,9] 0 ⟨fr,H⟩=⟨[(9,.d (I 0)),(8,.d (I l.length)),(7,.d (.l (K1 4) (l.map Ag.dv) t)),(3,.d (I 1))],[]⟩) :
  kC T.env 0 fr H (.h (.loop [3,7,8,9] qre,k))=r:=by
 refine qil (λp:Nat×Int=>⟨[(9,.d (I p.1)),(8,.d (I l.length)),(7,.d (.l (K1 4) (l.map Ag.dv) t)),(3,.d (I p.2))],[]⟩) (λi=>(i,(l.take i).foldl (λn a=>IntKind.i64.wrap (n+g a)) 1)) l.length ?_ ?_ (by rw[h0];rfl)
 ·intro B _;simp only[List.take_length];rw[<-he];have h1:¬((l.length:Int)<l.length):=by omega
  simp[qre]
 ·intro B _ i hi c hc;have h1:(i:Int)<l.length:=by omega
  have h3:=wr1 (i:=i) (by omega)
  have e:=hg l[i] (zzs hi)
  simp only[zzw hi,List.foldl_append,List.foldl_cons,List.foldl_nil]at hc;simp only;generalize (l.take i).foldl (λn a=>IntKind.i64.wrap (n+g a)) 1=m at *
  simp[qre,h1,hi,h3,e,zzj];exact hc _ _ (by simp)
def qRu(T:Tab)(hT:HT T)(x:Ag)(l:CF Ag)(h2:x.A8.l=l.map Ag.dv)(h4:l.length*56<=140737488355328)(g:Ag->Int)(hg:∀a∈l,T.val 405 [a.dv]=some (.d (I (g a)),false)) :
  T.val 405 [x.dv]=some (.d (I (l.foldl (λn a=>IntKind.i64.wrap (n+g a)) 1)),false):=by
 have lp:=λk r fr H=>@qJZ T l x.A8.t g hg h4 k r fr H
 rw[qab T (hT 405 F405 rfl) rfl];obtain⟨o,m,s,a⟩:=x;obtain⟨a,t⟩:=a;simp only at h2 lp;subst h2;simp[F405,Fr.Aa];refine lp _ _ _ _ ?_ (by simp)
 simp
def qRt(T:Tab)(hT:HT T):∀(n:Nat) (x:Ag),SizeOf.sizeOf x.dv<n->x.ok->∃v:Int,T.val 405 [x.dv]=some (.d (I v),false):=by
 intro n;induction n with
 |zero=>intro x h;exact absurd h (zzm _)
 |succ n ih=>
  intro x hn hx;obtain⟨l,h2,h3,h4⟩:=qnB hx;obtain⟨g,hg⟩:=qi8 (P:=λa v=>T.val 405 [a.dv]=some (.d (I v),false)) (λa ha=>ih a (by have:=qnA h2 ha;omega) (h3 a ha))
  exact⟨_,qRu T hT x l h2 h4 g hg⟩
def qJ0(T:Tab)(l:CF Ag)(t:CG)(g:Ag->Int)(hg:∀a∈l,T.val 406 [a.dv]=some (.d (I (g a)),false))(hn:l.length*56<=140737488355328){k:KC (PV×CG)}{r:Cz}{fr:Fr}{H:CP}
  (he:k (.exit 0) [(10,.d (.b false)),(9,.d (I l.length)),(8,.d (I l.length)),(7,.d (.l (K1 4) (l.map Ag.dv) t)),(3,.d (I (l.foldl (λn a=>max n (g a)) 0)))] []=r)
  (h0:gc [3,7,8,9] 0 ⟨fr,H⟩=⟨[(9,.d (I 0)),(8,.d (I l.length)),(7,.d (.l (K1 4) (l.map Ag.dv) t)),(3,.d (I 0))],[]⟩) :
  kC T.env 0 fr H (.h (.loop [3,7,8,9] qrf,k))=r:=by
 refine qil (λp:Nat×Int=>⟨[(9,.d (I p.1)),(8,.d (I l.length)),(7,.d (.l (K1 4) (l.map Ag.dv) t)),(3,.d (I p.2))],[]⟩) (λi=>(i,(l.take i).foldl (λn a=>max n (g a)) 0)) l.length ?_ ?_ (by rw[h0];rfl)
 ·intro B _;simp only[List.take_length];rw[<-he];have h1:¬((l.length:Int)<l.length):=by omega
  simp[qrf]
 ·intro B _ i hi c hc;have h1:(i:Int)<l.length:=by omega
  have h3:=wr1 (i:=i) (by omega)
  have e:=hg l[i] (zzs hi)
  simp only[zzw hi,List.foldl_append,List.foldl_cons,List.foldl_nil]at hc;simp only;generalize (l.take i).foldl (λn a=>max n (g a)) 0=m at *
  simp[qrf,h1,hi,h3,e,zzj];exact hc _ _ (by simp)
def qRw(T:Tab)(hT:HT T)(x:Ag)(l:CF Ag)(h2:x.A8.l=l.map Ag.dv)(h4:l.length*56<=140737488355328)(g:Ag->Int)(hg:∀a∈l,T.val 406 [a.dv]=some (.d (I (g a)),false)) :
  T.val 406 [x.dv]=some (.d (I (IntKind.i64.wrap (l.foldl (λn a=>max n (g a)) 0+1))),false):=by
 have lp:=λk r fr H=>@qJ0 T l x.A8.t g hg h4 k r fr H
 rw[qab T (hT 406 F406 rfl) rfl];obtain⟨o,m,s,a⟩:=x;obtain⟨a,t⟩:=a;simp only at h2 lp;subst h2;simp[F406,Fr.Aa];refine lp _ _ _ _ ?_ (by simp)
 simp
def qRv(T:Tab)(hT:HT T):∀(n:Nat) (x:Ag),SizeOf.sizeOf x.dv<n->x.ok->∃v:Int,T.val 406 [x.dv]=some (.d (I v),false):=by
 intro n;induction n with
 |zero=>intro x h;exact absurd h (zzm _)
 |succ n ih=>
  intro x hn hx;obtain⟨l,h2,h3,h4⟩:=qnB hx;obtain⟨g,hg⟩:=qi8 (P:=λa v=>T.val 406 [a.dv]=some (.d (I v),false)) (λa ha=>ih a (by have:=qnA h2 ha;omega) (h3 a ha))
  exact⟨_,qRw T hT x l h2 h4 g hg⟩
def qsS:∀(H J:CP),qae (H++J)=qae H++qae J
 |[],_=>rfl
 |x::H,J=>by rw[List.cons_append,qae,qae,qsS H J,zzM]
def qDL{H:CP}(hH:Cl H)(k k':K)(v:DV)(h:Nat):Cl (H++[some (.box k (.d v)),some (.box k' (.f h []))]):=by
 intro r hr;have:r∈qae H:=by simpa[qsS,qae,qav,Obj.refs,PV.refs,PV.AL]using hr
 have:=hH r this
 simp only[zzp,zzn,List.length_nil];omega
def qDK{H:CP}(hH:Cl H)(k:K)(v:DV):Cl (H++[some (.box k (.d v))]):=by
 intro r hr;have:r∈qae H:=by simpa[qsS,qae,qav,Obj.refs,PV.refs,PV.AL]using hr
 have:=hH r this
 simp only[zzp,zzn,List.length_nil];omega
def qPG(T:Tab)(hT:HT T)(p:Ag->CG)(c:PV)(H0:CP)(hH:Cl H0)(hc:∀r∈PV.AL [c],r<H0.length)(l:CF Ag)(hv:∀x∈l,T.ref 413 [.d x.dv,c] H0=some (.d (.b (p x)),H0))(s:CG)(hn:l.length<=maxLen) :
  T.ref 412 [.d (.l (K1 4) (l.map Ag.dv) s),.f 413 [c]] H0=some (.d (.b (l.any p)),H0):=by
 have e:=qqy T (show T.F 419=some (qhO (K1 4))from hT 419 qok rfl) 413 Ag.dv p c [] H0 hH hc l hv s hn
 have ea:=qsW p l
 rw[qbW T (hT 412 qlJ rfl) rfl];simp[qlJ,Fr.Aa,e,qbh,qnj hH,ea]
def qPF(T:Tab)(hT:HT T)(h:Nat)(x:Ag)(l:CF Ag)(h2:x.A8.l=l.map Ag.dv)(h4:l.length*56<=140737488355328)(b:CG)(hb:T.val h [x.dv]=some (.d (.b b),false))(g:Ag->CG)(hg:∀a∈l,∀H0,Cl H0->T.ref 407 [.d a.dv,.f h []] H0=some (.d (.b (g a)),H0))(H0:CP)(hH:Cl H0) :
  T.ref 407 [.d x.dv,.f h []] H0=some (.d (.b (b && !(l.any λa=>!(g a)))),H0):=by
 have hC:=qDL hH (K1 4) K0 x.dv h
 have hm:=mxl
 have e412:=qPG T hT (λa=>!(g a)) (.p (H0.length+1) 0 0) _ hC (by simp[PV.refs,PV.AL]) l (λa ha=>by
  have e:=hg a ha _ (qDK hC (K1 4) a.dv)
  rw[qbW T (hT 413 qlK rfl) rfl];simp[qlK,Fr.Aa,qh9,qir,qjM,qin,qg8,zzM]at e⊢;rw[e];simp[qbh]
  have:=qeT hC [some (.box (K1 4) (.d a.dv))] (.b (!(g a)))
  simpa[zzM]using this) x.A8.t (by rw[hm];omega)
 obtain⟨o,m,s,a⟩:=x;obtain⟨a,t⟩:=a;simp only at h2;subst h2;rw[qbW T (hT 407 qj4 rfl) rfl];have hg1:=qeT hH [some (.box (K1 4) (.d (Ag.dv ⟨o,m,s,⟨l.map Ag.dv,t⟩⟩))),some (.box K0 (.f h []))]
 cases b with
 |false=>
  simp[qj4,Fr.Aa,qh9,qir,qjM,qin,qg8,zzM,hb,qbh];exact hg1 _
 |true=>
  simp[qj4,Fr.Aa,qh9,qir,qjM,qin,qg8,zzM,hb,e412,qbh];exact hg1 _
def qBU(T:Tab)(hT:HT T)(h:Nat)(hp:∀a:Ag,a.ok->∃b:CG,T.val h [a.dv]=some (.d (.b b),false)):∀(n:Nat) (x:Ag),SizeOf.sizeOf x.dv<n->x.ok->∃b:CG,∀H0,Cl H0->T.ref 407 [.d x.dv,.f h []] H0=some (.d (.b b),H0):=by
 intro n;induction n with
 |zero=>intro x h;exact absurd h (zzm _)
 |succ n ih=>
  intro x hn hx;obtain⟨l,h2,h3,h4⟩:=qnB hx;obtain⟨g,hg⟩:=qi8 (P:=λa b=>∀H0,Cl H0->T.ref 407 [.d a.dv,.f h []] H0=some (.d (.b b),H0)) (λa ha=>ih a (by have:=qnA h2 ha;omega) (h3 a ha))
  obtain⟨b,hb⟩:=hp x hx;exact⟨_,λH0 hH=>qPF T hT h x l h2 h4 b hb g hg H0 hH⟩
def HNm(T:Tab):Prop:=∀s:Cv,s.length<=maxLen->∃b:CG,T.val 415 [.s s]=some (.d (.b b),false)
def qRy(T:Tab)(hT:HT T)(hN:HNm T)(x:Ag)(hx:x.ok):∃b:CG,T.val 409 [x.dv]=some (.d (.b b),false):=by
 apply qHx
 obtain⟨b,e⟩:=hN x.S hx.2.2.1;rw[qab T (hT 409 qlI rfl) rfl];simp[qlI,Fr.Aa,e];repeat' (refine qmT (λh=>?_) (λh=>?_)<;>(try simp at h)<;>(try simp[h,e]))
 all_goals exact qbz (show IsB _ from⟨_,rfl⟩)
def qRs(T:Tab)(hT:HT T)(hN:HNm T)(x:Ag)(hx:x.ok):∃n:Int,T.val 399 [x.dv]=some (.d (I n),false):=by
 obtain⟨n,e1⟩:=qRt T hT _ x (Nat.lt_succ_self _) hx;obtain⟨m,e2⟩:=qRv T hT _ x (Nat.lt_succ_self _) hx;obtain⟨b,e3⟩:=qBU T hT 408 (λa _=>⟨_,qRx T hT a⟩) _ x (Nat.lt_succ_self _) hx
 obtain⟨c,e4⟩:=qBU T hT 409 (λa ha=>qRy T hT hN a ha) _ x (Nat.lt_succ_self _) hx
 have e3':=e3 [some (.box (K1 4) (.d x.dv))] (by intro r hr;simp[qae,qav,Obj.refs,PV.refs]at hr)
 have e4':=e4 [some (.box (K1 4) (.d x.dv))] (by intro r hr;simp[qae,qav,Obj.refs,PV.refs]at hr)
 apply qy6
 rw[qab T (hT 399 qlH rfl) rfl];simp[qlH,Fr.Aa,e1,e2,e3',e4'];repeat' (refine qmT (λh=>?_) (λh=>?_)<;>(try simp at h)<;>(try simp[h,e1,e2,e3',e4']))
 all_goals exact qbz (show IsI _ from⟨_,rfl⟩)
end
end
def qrS:∀x:Cv,Op.bytesLess x x=false
 |[]=>rfl
 |a::x=>by simp[Op.bytesLess,qrS x]
def qwV:∀{x y z:Cv},Op.bytesLess x y=true->Op.bytesLess y z=true->Op.bytesLess x z=true
 |_,[],_,h,_=>by cases ‹Cv› <;> simp[Op.bytesLess]at h
 |_,_::_,[],_,h=>by simp[Op.bytesLess]at h
 |[],_::_,_::_,_,_=>rfl
 |a::x,b::y,c::z,h,k=>by
  simp only[Op.bytesLess,Bool.or_eq_true,zzf,zzq,beq_iff_eq]at h k⊢;rcases h with h|⟨rfl,h⟩
  ·rcases k with k|⟨rfl,k⟩
   ·exact .inl (UInt8.lt_trans h k)
   ·exact .inl h
  ·rcases k with k|⟨rfl,k⟩
   ·exact .inl k
   ·exact .inr ⟨rfl,qwV h k⟩
def qrT:∀{x y:Cv},Op.bytesLess x y=false->Op.bytesLess y x=false->x=y
 |[],[],_,_=>rfl
 |[],_::_,h,_=>by simp[Op.bytesLess]at h
 |_::_,[],_,h=>by simp[Op.bytesLess]at h
 |a::x,b::y,h,k=>by
  simp only[Op.bytesLess,zzD,Bool.and_eq_false_iff,zzE,beq_eq_false_iff_ne]at h k;have e:a=b:=UInt8.le_antisymm (UInt8.not_lt.1 k.1) (UInt8.not_lt.1 h.1)
  subst e;have h2:=h.2
  have k2:=k.2
  simp only[ne_eq,not_true_eq_false,false_or]at h2 k2;rw[qrT h2 k2]
def ltL(a b:Ac):CG:=decide (a.Ai<b.Ai)||((a.Ai==b.Ai)&&Op.bytesLess a.Aw b.Aw)
def qtr(a b:Ac):Prop:=a.Ai=b.Ai/\a.Aw=b.Aw
def qKx{a b:Ac}:ltL a b=true↔a.Ai<b.Ai\/(a.Ai=b.Ai/\Op.bytesLess a.Aw b.Aw=true):=by simp[ltL]
def qAu{a b c:Ac}(h:ltL a b=true)(k:ltL b c=true):ltL a c=true:=by
 rw[qKx]at *
 rcases h with h|⟨h1,h2⟩
 ·rcases k with k|⟨k1,k2⟩<;>exact .inl (by omega)
 ·rcases k with k|⟨k1,k2⟩
  ·exact .inl (by omega)
  ·exact .inr ⟨by omega,qwV h2 k2⟩
def qtF{a b:Ac}(h:ltL a b=false)(k:ltL b a=false):qtr a b:=by
 simp only[ltL,zzD,zzE,Bool.and_eq_false_iff,beq_eq_false_iff_ne]at h k;have e:a.Ai=b.Ai:=by omega
 refine⟨e,qrT ?_ ?_⟩
 ·rcases h.2 with h|h
  ·exact absurd e h
  ·exact h
 ·rcases k.2 with k|k
  ·exact absurd e.symm k
  ·exact k
def qKy{a b c:Ac}(h:qtr a b):ltL c a=ltL c b:=by simp[ltL,h.1,h.2]
def qdf(y x:Ac):Ac:=⟨y.Ai,w64 (y.Amount+x.Amount),y.Aw⟩
def qaV:CF Ac->Ac->CF Ac
 |[],x=>[x]
 |y::r,x=>if ltL y x=true then y::qaV r x else if ltL x y=true then x::y::r else qdf y x::r
abbrev Srt(l:CF Ac):Prop:=l.Pairwise λa b=>ltL a b=true
def qtH:∀{l:CF Ac} {x y:Ac},y∈qaV l x->y∈l\/qtr y x
 |[],x,y,h=>by simp[qaV]at h;subst h;exact .inr ⟨rfl,rfl⟩
 |z::r,x,y,h=>by
  unfold qaV at h;split at h
  ·rcases List.mem_cons.1 h with rfl|h
   ·exact .inl (zzr ..)
   ·rcases qtH h with h|h
    ·exact .inl (zzi _ h)
    ·exact .inr h
  ·split at h
   ·rcases List.mem_cons.1 h with rfl|h
    ·exact .inr ⟨rfl,rfl⟩
    ·exact .inl h
   ·rename_i h1 h2;rcases List.mem_cons.1 h with rfl|h
    ·have k:=qtF (by simpa using h1) (by simpa using h2)
     exact .inr k
    ·exact .inl (zzi _ h)
def qqM:∀{l:CF Ac} (x:Ac),Srt l->Srt (qaV l x)
 |[],x,_=>by simp[qaV,Srt]
 |z::r,x,h=>by
  have h':=List.pairwise_cons.1 h
  unfold qaV;split
  ·rename_i hz;refine List.pairwise_cons.2 ⟨λy hy=>?_,qqM x h'.2⟩
   rcases qtH hy with hy|hy
   ·exact h'.1 y hy
   ·rw[qKy hy];exact hz
  ·split
   ·rename_i hz;refine List.pairwise_cons.2 ⟨λy hy=>?_,h⟩
    rcases List.mem_cons.1 hy with rfl|hy
    ·exact hz
    ·exact qAu hz (h'.1 y hy)
   ·exact List.pairwise_cons.2 ⟨λy hy=>(h'.1 y hy),h'.2⟩
def qkT:∀(l:CF Ac) (x:Ac),(qaV l x).length<=l.length+1
 |[],x=>by simp[qaV]
 |z::r,x=>by
  unfold qaV
  have:=qkT r x
  split
  ·simp;omega
  ·split<;>simp
def qpH(l:CF Ac)(x:Ac):qaV l x≠[]:=by
 cases l with
 |nil=>simp[qaV]
 |cons z r=>unfold qaV;split<;>(try split)<;>simp
def plc(l:CF Ac)(x:Ac):Nat:=(l.takeWhile λy=>ltL y x).length
def qnp:∀(l:CF Ac) (x:Ac),(∀h:plc l x<l.length,ltL x l[plc l x]=true)->qaV l x=l.take (plc l x)++x::l.drop (plc l x)
 |[],x,_=>rfl
 |z::r,x,h=>by
  unfold qaV;by_cases hz:ltL z x=true
  ·have e:plc (z::r) x=plc r x+1:=by simp[plc,List.takeWhile_cons,hz]
   simp only[e]at h⊢;rw[if_pos hz,qnp r x (λhk=>by simpa using h (by simpa using hk))]
   rfl
  ·have e:plc (z::r) x=0:=by simp[plc,List.takeWhile_cons,hz]
   simp only[e]at h⊢;rw[if_neg hz,if_pos (by simpa using h (by simp))]
   rfl
def qpI:∀(l:CF Ac) (x:Ac) (h:plc l x<l.length),ltL x l[plc l x]=false->qaV l x=l.set (plc l x) (qdf l[plc l x] x)
 |[],x,h,_=>by simp at h
 |z::r,x,h,hn=>by
  unfold qaV;by_cases hz:ltL z x=true
  ·have e:plc (z::r) x=plc r x+1:=by simp[plc,List.takeWhile_cons,hz]
   simp only[e]at h hn⊢;rw[if_pos hz,qpI r x (by simpa using h) (by simpa using hn)]
   simp
  ·have e:plc (z::r) x=0:=by simp[plc,List.takeWhile_cons,hz]
   simp only[e]at h hn⊢;rw[if_neg hz,if_neg (by simpa using hn)]
   simp
def qle(l:CF Ac)(x:Ac):plc l x<=l.length:=(List.takeWhile_sublist _).length_le
def qqr:∀(l:CF Ac) (x:Ac) (j:Nat) (h:j<l.length),j<plc l x->ltL l[j] x=true
 |[],x,j,h,_=>by simp at h
 |z::r,x,j,h,hj=>by
  by_cases hz:ltL z x=true
  ·have e:plc (z::r) x=plc r x+1:=by simp[plc,List.takeWhile_cons,hz]
   cases j with
   |zero=>exact hz
   |succ j=>simp only[zzG];exact qqr r x j _ (by omega)
  ·have e:plc (z::r) x=0:=by simp[plc,List.takeWhile_cons,hz]
   omega
def qld:∀(l:CF Ac) (x:Ac) (h:plc l x<l.length),ltL l[plc l x] x=false
 |[],x,h=>by simp at h
 |z::r,x,h=>by
  by_cases hz:ltL z x=true
  ·have e:plc (z::r) x=plc r x+1:=by simp[plc,List.takeWhile_cons,hz]
   simp only[e]at h⊢;simp only[zzG];exact qld r x (by simpa using h)
  ·have e:plc (z::r) x=0:=by simp[plc,List.takeWhile_cons,hz]
   simp only[e];simpa using hz
def qBw{l:CF Ac}(hs:Srt l)(x:Ac)(j:Nat)(h:j<l.length)(hj:plc l x<=j):ltL l[j] x=false:=by
 have h0:=qld l x (by omega)
 by_cases e:plc l x=j
 ·simp only[e]at h0;exact h0
 ·have:=List.pairwise_iff_getElem.1 hs (plc l x) j (by omega) h (by omega)
  cases hl:ltL l[j] x with
  |false=>rfl
  |true=>rw[qAu this hl]at h0;cases h0
def qba(l:CF Ac):CF Ac:=(l.foldl qaV []).filter λx=>x.Amount != 0
def qsA:∀(l a:CF Ac),(l.foldl qaV a).length<=a.length+l.length
 |[],a=>by simp
 |x::l,a=>by
  have:=qsA l (qaV a x)
  have:=qkT a x
  simp only[List.foldl_cons,zzn];omega
def qhu{x y:Cv}(h:¬x=y):(x==y)=false:=by simpa using h
section
attribute [local simp ↓] qgU qgS qgJ qgT qgG qgL qgH qgI sqK blK lpK qgZ qgX qgV qgY qgW qgz qgB qhC qga qf8 qf9 qgd qfC qfD qfn qfq qfB qfF qfp qfG qfv qfx qfy qfz qfE qfA qfo qfr qeK qfs qfw qf6 qf3 qfJ qfI qfR qfK qcZ qdA qfL qfM qg1 qeX qg0 qhz qe8 qfY qfZ qfS qfU qfT qeM qf7 qeN qfO qf2 qfW qfV qfQ qfP qf1 qf4 qfN qf0 qgA qeL qe7 qgq qe4 qb4 qgr qeO qeP qf5 qcs qhx qft qgb qgc qg5 qhA qg2 qgM qgN qgO qgP qgQ qgR qfu qgp qh0 qiZ qi0 qiX qiY qiV qhX qi4 qi1 qjA qi2 qjU qkA qfX
attribute [local simp] qck qg7 qg9 qgv qgw qgl qgm qhv qhw qgs qgt rd IOp.adds qao gh nid rgK rdS qgx qgy qhd qhe qhj qhk qhn qhi qhm qhl qfh qff qfg qhh qhg qgo qgn qhp qho qhq qhr qia qh8 qic qib qim qdk qiq qjL qjk qjK qjJ
section
attribute [local simp ↓] qcp qcq qb7 qdH qcN qew qbY qb1 qdj qdV qdW qdh qdi qb0 qdB qcd qd1 qd0 qd7 qej qdZ qeh qeg qcm qd3 qc2 qd4 qd6 qd5 qd8 qd2 qea qec qef qee qed qd9 qeb qei qdX qdY
attribute [local simp] qb9 qbr AA AP qaE qa8 chg qbj runs qa6 qbg PV.refs PV.AL IOp.okD IOp.barr qci Nat.testBit
attribute [local simp] gc Fr.keep qap qam qae PV.refs PV.AL qaG gcH qav Obj.refs PV.ren PV.Bt Obj.ren Heap.obj Fr.ren gh zzd
def qgg(a b:Int):Int:=if a<b then -1 else if b<a then 1 else 0
def qgh(a b:Cv):Int:=if Op.bytesLess a b=true then -1 else if Op.bytesLess b a=true then 1 else 0
def cmL(a b:Ac):Int:=if qgg a.Ai b.Ai=0 then qgh a.Aw b.Aw else qgg a.Ai b.Ai
def qxe(a b:Ac):decide (cmL a b<0)=ltL a b:=by
 unfold cmL qgg qgh ltL;by_cases h1:a.Ai<b.Ai
 ·simp[h1]
 ·by_cases h2:b.Ai<a.Ai
  ·have:¬a.Ai=b.Ai:=by omega
   simp[h1,h2,this]
  ·have e:a.Ai=b.Ai:=by omega
   simp only[e,Int.lt_irrefl,if_false,if_true,decide_false,beq_self_eq_true,Bool.true_and,Bool.false_or];cases Op.bytesLess a.Aw b.Aw<;>cases Op.bytesLess b.Aw a.Aw<;>simp
def qxd(a b:Ac)(h:ltL a b=false):(cmL a b==0)=!ltL b a:=by
 unfold cmL qgg qgh;unfold ltL at h⊢;by_cases h1:a.Ai<b.Ai
 ·simp[h1]at h
 ·by_cases h2:b.Ai<a.Ai
  ·simp[h1,h2]
  ·have e:a.Ai=b.Ai:=by omega
   simp only[e,Int.lt_irrefl,if_false,if_true,decide_false,beq_self_eq_true,Bool.true_and,Bool.false_or]at h⊢;rw[h];cases Op.bytesLess b.Aw a.Aw<;>simp
def qDc(T:Tab)(hN:HN T)(x:Int):T.val 382 [I x]=some (.d (.b false),false):=by
 rw[qab T (hN 382 qlG rfl) rfl];simp[qlG,Fr.Aa,bne]
def qDb(T:Tab)(hN:HN T)(x:Cv):T.val 344 [.s x]=some (.d (.b false),false):=by
 rw[qab T (hN 344 qlF rfl) rfl];simp[qlF,Fr.Aa]
def qRp(T:Tab)(hN:HN T)(x y:Int):T.val 342 [I x,I y]=some (.d (I (qgg x y)),false):=by
 rw[qab T (hN 342 qlE rfl) rfl];have e1:=qDc T hN x
 have e2:=qDc T hN y
 unfold qgg;simp[qlE,Fr.Aa,e1,e2];repeat' (refine qaX (λh=>?_) (λh=>?_)<;>(try simp at h)<;>(try simp[h,e1,e2]))
 all_goals first|omega|simp_all
 all_goals omega
def qm2{R:Type}(a b:Cv){d:DV->CE R}:bo (qaI .lss (.d (.s a)) (.d (.s b))) (.h d)=d (.b (Op.bytesLess a b)):=rfl
def qwZ{R:Type}(a b:Cv){d:DV->CE R}:bo (qaI .gtr (.d (.s a)) (.d (.s b))) (.h d)=d (.b (!(Op.bytesLess a b||a==b))):=rfl
def qGX(a b:Cv)(h:Op.bytesLess a b=false):(!(Op.bytesLess a b||a==b))=Op.bytesLess b a:=by
 rw[h,Bool.false_or];cases hb:Op.bytesLess b a with
 |true=>
  have:a≠b:=by intro e;subst e;rw[qrS]at hb;cases hb
  simpa using this
 |false=>simp[qrT h hb]
def qC9(T:Tab)(hN:HN T)(x y:Cv):T.val 268 [.s x,.s y]=some (.d (I (qgh x y)),false):=by
 rw[qab T (hN 268 qlD rfl) rfl];have e1:=qDb T hN x
 have e2:=qDb T hN y
 unfold qgh;simp[qlD,Fr.Aa,e1,e2,↓qm2,↓qwZ];refine qaX (λh=>?_) (λh=>?_)
 ·simp[h]
 ·have g:=qGX x y h
  rw[h]at g;simp[h,e1,e2,↓qm2,↓qwZ,g];refine qaX (λh2=>?_) (λh2=>?_)
  ·rw[h2]at g;simp[h2,g];exact g.symm
  ·rw[h2]at g;simp[h2,g];exact g.symm
def orL:Cw->Int
 |[]=>0
 |x::r=>if x=0 then orL r else x
def qJX(T:Tab)(l:Cw)(t:CG)(hn:l.length<=maxLen){k:KC (PV×CG)}{r:Int->Cz}{fr:Fr}{H:CP}
  (hr:∀fr x,fr.get 2=.d (I x)->qan fr=[]->k .ret fr []=r x)
  (h0:gc [3,6,7,8] 0 ⟨fr,H⟩=⟨[(8,.d (I 0)),(7,.d (I l.length)),(6,.d (.l K0 (l.map I) t)),(3,.d (I 0))],[]⟩)
  (he:k (.exit 0) [(9,.d (.b false)),(8,.d (I l.length)),(7,.d (I l.length)),(6,.d (.l K0 (l.map I) t)),(3,.d (I 0))] []=r 0) :
  kC T.env 0 fr H (.h (.loop [3,6,7,8] qou,k))=r (orL l):=by
 have hm:=mxl
 rw[qbi l (λi _=>⟨[(8,.d (I i)),(7,.d (I l.length)),(6,.d (.l K0 (l.map I) t)),(3,.d (I 0))],[]⟩) (λ_ _=>True) (λi _ x c=>if x=0 then c ()else r x) (λ_=>r 0) ?_ ?_ h0 trivial]
 ·have:∀(l:Cw) (i:Nat),rounds (λi (_:Unit) x c=>if x=0 then c ()else r x) (λ_=>r 0) i () l=r (orL l):=by
   intro l;induction l with
   |nil=>intro i;rfl
   |cons x l ih=>
    intro i;rw[rounds,orL];split
    ·exact ih (i+1)
    ·rfl
  exact this l 0
 ·intro B _ _ _;rw[<-he];simp[qou]
 ·intro B _ i _ hi _ c hc;have h1:(i:Int)<l.length:=by omega
  have h3:=wr1 (i:=i) (by omega)
  by_cases hz:l[i]=0
  ·rw[if_pos hz];simp[qou,h1,hi,h3,hz,bne];exact hc () _ _ trivial (by simp)
  ·rw[if_neg hz];have hz':(l[i]==0)=false:=by simpa using hz
   simp[qou,h1,hi,h3,hz,hz',bne];exact hr _ _ (by simp[Fr.get]) (by simp[qan,gh])
def qRo(T:Tab)(hN:HN T)(l:Cw)(t:CG)(hn:l.length<=maxLen):T.val 341 [.l K0 (l.map I) t]=some (.d (I (orL l)),false):=by
 rw[qab T (hN 341 F341 rfl) rfl];have lp:=λk r fr H=>@qJX T l t hn k r fr H
 simp[F341,Fr.Aa];refine lp _ (λx=>some (.d (I x),false)) _ _ ?_ (by simp) ?_
 ·intro fr x h hg;simp[h,hg,qb4]
 ·simp
def qC7(T:Tab)(hN:HN T)(a b:Ac):T.val 263 [a.dv,b.dv]=some (.d (I (cmL a b)),false):=by
 rw[qab T (hN 263 qlB rfl) rfl];have e1:=qRp T hN a.Ai b.Ai
 have e2:=qC9 T hN a.Aw b.Aw
 have e3:=qRo T hN [qgg a.Ai b.Ai,qgh a.Aw b.Aw] false (by show 2<=maxLen;decide)
 have e4:orL [qgg a.Ai b.Ai,qgh a.Aw b.Aw]=cmL a b:=by
  simp only[orL,cmL];split
  ·split
   ·rename_i h;rw[h]
   ·rfl
  ·rfl
 rw[e4]at e3;simp only[zzu,List.map_nil]at e3;simp[qlB,Fr.Aa,e1,e2,e3,↓qcp,↓qcq,↓qb7,↓qdH,↓qcN,↓qew,↓qbY,qb9,↓qb1,↓qdj,↓qdV,↓qdW,↓qdh,↓qdi,↓qb0,↓qdB,↓qcd,↓qd1,↓qd0,↓qd7,↓qej,↓qdZ,↓qeh,↓qeg,↓qcm,↓qd3,↓qc2,↓qd4,↓qd6,↓qd5,↓qd8,↓qd2,↓qea,↓qec,↓qef,↓qee,↓qed,↓qd9,↓qeb,↓qei,↓qdX,↓qdY,qbr,AA,AP,qaE,qa8,chg,qbj,runs,qa6,qbg,PV.refs,PV.AL,IOp.okD,IOp.barr,qci,Nat.testBit,qcY,qc1,qc0,qaK,pur,qaW]
def qJU(T:Tab)(hN:HN T)(l:CF Ac)(hs:Srt l)(x:Ac)(w:DV)(t:CG)(hn:l.length<1000000){k:KC (PV×CP)}{r:CB}
  (he:∀b,k (.exit 0) [(17,.d (.b b)),(10,.d (I (plc l x))),(9,.d (I (plc l x))),(8,.d (I l.length)),(4,.p 2 0 0),(2,.f 263 []),(0,.r 0 (K1 3) 0 l.length t)] [some (.sl (K1 3) 0 (l.map Ac.dv)),some (.box (K1 3) (.d w)),some (.box (K1 3) (.d x.dv))]=r)
  (lo hi:Nat) (h1:lo<=plc l x) (h2:plc l x<=hi) (h3:hi<=l.length) {fr:Fr} {H:CP}
  (h0:gc [0,2,4,8,9,10] 2 ⟨fr,H⟩=⟨[(10,.d (I hi)),(9,.d (I lo)),(8,.d (I l.length)),(4,.p 2 0 0),(2,.f 263 []),(0,.r 0 (K1 3) 0 l.length t)],[some (.sl (K1 3) 0 (l.map Ac.dv)),some (.box (K1 3) (.d w)),some (.box (K1 3) (.d x.dv))]⟩) :
  kC T.env 2 fr H (.h (.loop [0,2,4,8,9,10] qor,k))=r:=by
 refine qc7 (λs:Nat×Nat=>⟨[(10,.d (I s.2)),(9,.d (I s.1)),(8,.d (I l.length)),(4,.p 2 0 0),(2,.f 263 []),(0,.r 0 (K1 3) 0 l.length t)],[some (.sl (K1 3) 0 (l.map Ac.dv)),some (.box (K1 3) (.d w)),some (.box (K1 3) (.d x.dv))]⟩) (λs=>s.1<=plc l x/\plc l x<=s.2/\s.2<=l.length) (λs=>s.2-s.1) ?_ (lo,hi) ⟨h1,h2,h3⟩ h0
 rintro B-⟨a,b⟩ ⟨ha,hb,hc⟩ hx;simp only at ha hb hc hx⊢;have hx':=λ(s':Nat×Nat)=>hx s'
 clear hx
 by_cases hab:a<b
 ·obtain⟨m,hm⟩:∃m,(a+b)/2=m:=⟨_,rfl⟩;have g1:((a:Int)<b):=by omega
  have g2:m<l.length:=by omega
  have g3:(m:Int)<l.length:=by omega
  have w1:IntKind.i64.wrap ((a:Int)+b)=((a+b:Nat):Int):=by rw[wrI (by omega) (by omega)];omega
  have w2:IntKind.u64.wrap ((a+b:Nat):Int)=((a+b:Nat):Int):=wrU (by omega) (by omega)
  have w3:Int.fdiv ((a+b:Nat):Int) (2^min 1 IntKind.u64.bits)=(((a+b)/2:Nat):Int):=qyI (a+b)
  rw[hm]at w3;have w4:IntKind.i64.wrap (m:Int)=m:=wrI (by omega) (by omega)
  have w5:IntKind.i64.wrap ((m:Int)+1)=(m:Int)+1:=wrI (by omega) (by omega)
  obtain⟨z,hz⟩:∃z:Int,((a+b:Nat):Int)=z:=⟨_,rfl⟩;rw[hz]at w1 w2 w3;have e:=qC7 T hN l[m] x
  have e2:=qxe l[m] x
  simp[qor,hab,g1,g2,g3,w1,w2,w3,w4,w5,↓qaS,↓qa7,↓qw0,↓qbJ,↓qbX,↓qh3,↓qh1,qaf,zzj,e,e2];refine qaX (λh=>?_) (λh=>?_)
  ·have hlt:m<plc l x:=by
    by_cases hh:m<plc l x
    ·exact hh
    ·rw[qBw hs x m g2 (by omega)]at h;cases h
   simp[h,w4,w5,g1,g3];refine hx' (m+1,b) ⟨by omega,by omega,by omega⟩ (by simp only;omega) _ _ ?_
   simp
  ·have hge:plc l x<=m:=by
    by_cases hh:plc l x<=m
    ·exact hh
    ·rw[qqr l x m g2 (by omega)]at h;cases h
   simp[h,w4,w5,g1,g3];refine hx' (a,m) ⟨by omega,by omega,by omega⟩ (by simp only;omega) _ _ ?_
   simp
 ·have:a=b:=by omega
  subst this;have hp:plc l x=a:=by omega
  rw[hp]at he;simp[qor,he]
def fnd(l:CF Ac)(x:Ac):CG:=match l[plc l x]? with|some y=>!ltL x y|none=>false
def qPA(T:Tab)(hN:HN T)(l:CF Ac)(hs:Srt l)(x:Ac)(w:DV)(t:CG)(hn:l.length<1000000) :
  T.ref 262 [.r 0 (K1 3) 0 l.length t,.d x.dv,.f 263 []] [some (.sl (K1 3) 0 (l.map Ac.dv)),some (.box (K1 3) (.d w))]=some (.t [.d (I (plc l x)),.d (.b (fnd l x))],[some (.sl (K1 3) 0 (l.map Ac.dv)),some (.box (K1 3) (.d w))]):=by
 rw[qbW T (hN 262 F262 rfl) rfl];have hH:Cl [some (.sl (K1 3) 0 (l.map Ac.dv)),some (.box (K1 3) (.d w))]:=λr h=>by simp[qae,qav,Obj.refs,PV.refs]at h
 have lp:=λk r he fr H=>@qJU T hN l hs x w t hn k r he 0 l.length (zzK _) (qle l x) (zzt _) fr H
 have hgc:∀v J,gcV 2 (.t [.d v,.d (.b (fnd l x))]) (some (.sl (K1 3) 0 (l.map Ac.dv))::some (.box (K1 3) (.d w))::J)=(.t [.d v,.d (.b (fnd l x))],[some (.sl (K1 3) 0 (l.map Ac.dv)),some (.box (K1 3) (.d w))]):=λv J=>qdl hH (by simp[PV.refs,PV.AL])
 simp[F262,Fr.Aa];refine lp _ _ (λb=>?_) _ _ (by simp)
 by_cases hp:plc l x<l.length
 ·have e:=qC7 T hN l[plc l x] x
  have e2:=qxd l[plc l x] x (qld l x hp)
  have hf:fnd l x=!ltL x l[plc l x]:=by rw[fnd,zze hp]
  rw[<-hf]at e2;have g3:(plc l x:Int)<l.length:=by omega
  generalize plc l x=m at *
  simp[hp,g3,↓qbJ,↓qbX,↓qh3,↓qh1,qaf,zzj,e,e2,qbh];exact hgc _ _
 ·have hf:fnd l x=false:=by rw[fnd,List.getElem?_eq_none (by omega)]
  have hp':¬((plc l x:Int)<l.length):=by omega
  rw[hf]at hgc⊢;simp[hp,hp',qbh];exact hgc _ _
abbrev HI(T:Tab):Prop:=∀args H,T.ref 264 args H=qgE (K1 3) 32 args H
def qh4(k:IntKind)(n:Int):DV.cells (.i k n)=[.i k n]:=rfl
def qPB(T:Tab)(hN:HN T)(x:Ac)(w:DV) :
  T.ref 262 [.d (.l (K1 3) [] true),.d x.dv,.f 263 []] [some (.box (K1 3) (.d w))]=some (.t [.d (I 0),.d (.b false)],[some (.box (K1 3) (.d w))]):=by
 rw[qbW T (hN 262 F262 rfl) rfl];have hH:Cl [some (.box (K1 3) (.d w))]:=λr h=>by simp[qae,qav,Obj.refs,PV.refs]at h
 have hgc:∀J,gcV 1 (.t [.d (I 0),.d (.b false)]) (some (.box (K1 3) (.d w))::J)=(.t [.d (I 0),.d (.b false)],[some (.box (K1 3) (.d w))]):=λJ=>qdl hH (by simp[PV.refs,PV.AL])
 simp[F262,Fr.Aa];rw[qgK];simp;simp[qor,qbh];exact hgc _
def qJP(T:Tab)(hN:HN T)(hI:HI T)(l:CF Ac)(t:CG)(hn:l.length<1000000){k:KC (PV×CG)}{fr:Fr}{H:CP}
  (h0:gc [0,9,10,11] 0 ⟨fr,H⟩=⟨[(11,.d (I 0)),(10,.d (I l.length)),(9,.d (.l (K1 3) (l.map Ac.dv) t)),(0,.d (.l (K1 3) [] true))],[]⟩) :
  kC T.env 0 fr H (.h (.loop [0,9,10,11] qkl,k))=k (.exit 0) [(12,.d (.b false)),(11,.d (I l.length)),(10,.d (I l.length)),(9,.d (.l (K1 3) (l.map Ac.dv) t)),(0,qai (K1 3) ((l.foldl qaV []).map Ac.dv))] (qar (K1 3) ((l.foldl qaV []).map Ac.dv)):=by
 rw[qbi l (λi (g:CF Ac)=>⟨[(11,.d (I i)),(10,.d (I l.length)),(9,.d (.l (K1 3) (l.map Ac.dv) t)),(0,qai (K1 3) (g.map Ac.dv))],qar (K1 3) (g.map Ac.dv)⟩) (λi g=>Srt g/\g.length<=i) (λ_ g x c=>c (qaV g x)) (λg=>k (.exit 0) [(12,.d (.b false)),(11,.d (I l.length)),(10,.d (I l.length)),(9,.d (.l (K1 3) (l.map Ac.dv) t)),(0,qai (K1 3) (g.map Ac.dv))] (qar (K1 3) (g.map Ac.dv))) ?_ ?_ (b0:=[]) h0 ⟨List.Pairwise.nil,zzt _⟩]
 ·rw[qdb (λ_ g x=>qaV g x) _ _ (λ_ _ _ _=>rfl)]
  have:∀(l:CF Ac) (i:Nat) (g:CF Ac),qaj (λ_ g x=>qaV g x) i g l=l.foldl qaV g:=by
   intro l;induction l with
   |nil=>intro _ _;rfl
   |cons x l ih=>intro i g;rw[qaj,ih,List.foldl_cons]
  rw[this]
 ·intro B _ g _;cases g with
  |nil=>simp[qkl,qai,qar]
  |cons y g=>simp[qkl,qai,qar]
 ·intro B _ i g hi hg c hc;have h1:(i:Int)<l.length:=by omega
  have h3:=wr1 (i:=i) (by omega)
  have hg':Srt (qaV g l[i])/\(qaV g l[i]).length<=i+1:=⟨qqM _ hg.1,zzL (qkT _ _) (by omega)⟩
  have hc':=λfr H=>hc (qaV g l[i]) fr H hg'
  clear hc
  generalize hx:l[i]=x at *
  cases g with
  |nil=>
   have e:=qPB T hN x x.dv
   have hz:qaV [] x=[x]:=rfl
   rw[hz]at hc'⊢;simp[qkl,qai,qar,h1,hi,h3,hx,e,hI,qgE,qa4,qcY,qc1,qc0];exact hc' _ _ (by simp[qai,qar])
  |cons y g=>
   obtain⟨gl,hgl⟩:∃gl,y::g=gl:=⟨_,rfl⟩;have hov:qai (K1 3) (List.map Ac.dv (y::g))=.r 0 (K1 3) 0 gl.length false:=by subst hgl;simp[qai]
   have hoo:qar (K1 3) (List.map Ac.dv (y::g))=[some (.sl (K1 3) 0 (gl.map Ac.dv))]:=by subst hgl;simp[qar]
   have hov':∀m,m≠[]->qai (K1 3) (List.map Ac.dv m)=.r 0 (K1 3) 0 m.length false:=λm hm=>by
    cases m with
    |nil=>exact absurd rfl hm
    |cons a b=>simp[qai]
   have hoo':∀m,m≠[]->qar (K1 3) (List.map Ac.dv m)=[some (.sl (K1 3) 0 (m.map Ac.dv))]:=λm hm=>by
    cases m with
    |nil=>exact absurd rfl hm
    |cons a b=>simp[qar]
   simp only[hov,hoo];simp only[hgl]at hg hg' hc'⊢;rw[hov' _ (qpH gl x),hoo' _ (qpH gl x)]at hc';clear hov hoo hov' hoo' hgl
   have hlen:gl.length<1000000:=by omega
   have e:=qPA T hN gl hg.1 x x.dv false hlen
   cases hf:fnd gl x with
   |true=>
    rw[hf]at e;have hp:plc gl x<gl.length:=by
     unfold fnd at hf;split at hf
     ·rename_i h;exact (zzk.1 h).1
     ·cases hf
    have hl:ltL x gl[plc gl x]=false:=by
     rw[fnd,zze hp]at hf;simpa using hf
    rw[qpI gl x hp hl]at hc'⊢;generalize plc gl x=p at *
    have g3:(p:Int)<gl.length:=by omega
    have hm:∀n,mkD (some 3) (putAt gl[p].dv.cells 1 [.i .i64 n])=some (Ac.dv ⟨gl[p].Ai,n,gl[p].Aw⟩):=λ_=>rfl
    simp[qkl,h1,hi,h3,hx,e,hp,g3,↓qbJ,-qcs,↓qiy,↓qjR,↓qix,↓qbX,↓qhy,zzj,qau,hm,qh4];refine hc' _ _ ?_;rw[show ∀v:Ac,(gl.map Ac.dv).set p v.dv=(gl.set p v).map Ac.dv from λv=>List.map_set.symm]
    simp[qdf,w64]
   |false=>
    rw[hf]at e;have hl:∀h:plc gl x<gl.length,ltL x gl[plc gl x]=true:=λh=>by
     rw[fnd,zze h]at hf;simpa using hf
    have hpl:=qle gl x
    rw[qnp gl x hl]at hc'⊢;generalize plc gl x=p at *
    have g3:(p:Int)<=gl.length:=by omega
    have g4:(gl.length+1)*32<=140737488355328:=by omega
    have g5:(gl.map Ac.dv).take gl.length=gl.map Ac.dv:=zzv (by simp)
    have g6:Nat.beq 0 2=false:=rfl
    simp[qkl,h1,hi,h3,hx,e,hI,qgE,qa4,qcY,qc1,qc0,g3,g4,g5,g6];refine hc' _ _ ?_;simp;omega
def qRg(T:Tab)(hN:HN T)(hI:HI T)(l:CF Ac)(t:CG)(hn:l.length<1000000):T.val 179 [.l (K1 3) [] true,.l (K1 3) (l.map Ac.dv) t]=some (.d (.l (K1 3) ((l.foldl qaV []).map Ac.dv) false),true):=by
 rw[qab T (hN 179 F179 rfl) rfl];have lp:=λk fr H=>@qJP T hN hI l t hn k fr H
 simp[F179,Fr.Aa];refine (lp _ _ _ (by simp)).trans ?_
 generalize l.foldl qaV []=g;cases g with
 |nil=>simp[qai,qar]
 |cons x g=>
  have ht:(g.map Ac.dv).take g.length=g.map Ac.dv:=zzv (by simp)
  simp[qai,qar,ht]
def qC4(T:Tab)(hN:HN T)(x:Ac):T.val 181 [x.dv]=some (.d (.b (x.Amount==0)),false):=by
 rw[qab T (hN 181 qlx rfl) rfl];simp[qlx,Fr.Aa]
def isZ(x:Ac):CG:=x.Amount==0
def qKt(T:Tab)(hN:HN T)(l:CF Ac)(hn:l.length<=maxLen){k:KC (PV×CP)}{r:Nat->CB}{fr:Fr}{H:CP}
  (hr:∀(j:Nat) fr J,fr.get 4=.d (I j)->qan fr=[]->k .ret fr ([some (.sl (K1 3) 0 (l.map Ac.dv))]++J)=r j)
  (h0:gc [0,1,7,8] 1 ⟨fr,H⟩=⟨[(8,.d (I 0)),(7,.d (I l.length)),(1,.f 181 []),(0,.r 0 (K1 3) 0 l.length false)],[some (.sl (K1 3) 0 (l.map Ac.dv))]⟩) :
  kC T.env 1 fr H (.h (.loop [0,1,7,8] (qiR (K1 3)),k))=match l.findIdx? isZ with|some j=>r j|none=>k (.exit 0) [(9,.d (.b false)),(8,.d (I l.length)),(7,.d (I l.length)),(1,.f 181 []),(0,.r 0 (K1 3) 0 l.length false)] [some (.sl (K1 3) 0 (l.map Ac.dv))]:=by
 rw[qbi l (λi _=>⟨[(8,.d (I i)),(7,.d (I l.length)),(1,.f 181 []),(0,.r 0 (K1 3) 0 l.length false)],[some (.sl (K1 3) 0 (l.map Ac.dv))]⟩) (λ_ _=>True) (λi _ x c=>if isZ x=true then r i else c ()) (λ_=>k (.exit 0) [(9,.d (.b false)),(8,.d (I l.length)),(7,.d (I l.length)),(1,.f 181 []),(0,.r 0 (K1 3) 0 l.length false)] [some (.sl (K1 3) 0 (l.map Ac.dv))]) ?_ ?_ h0 trivial]
 ·rw[quB isZ r _ _ (λ_ _ _ _=>rfl)]
  simp only[Nat.zero_add];try (cases l.findIdx? isZ<;>rfl)
 ·intro B _ _ _;simp[qiR]
 ·intro B _ i _ hi _ cc hcc;have hm:=mxl
  have h1:(i:Int)<l.length:=by omega
  have h3:=wr1 (i:=i) (by omega)
  have he:=qC4 T hN l[i]
  simp[qiR,h1,hi,h3,he,↓qbJ,↓qbX,qaf];refine qaX (λh=>?_) (λh=>?_)
  ·rw[if_pos (show isZ l[i]=true from h)]
   simp;simpa using hr i _ [] (by simp[Fr.get]) (by simp[qan,gh])
  ·rw[if_neg (by rw[isZ,h];decide)]
   simp[h3];exact hcc () _ _ trivial (by simp)
def qPC(T:Tab)(hN:HN T)(l:CF Ac)(hn:l.length<=maxLen):T.ref 265 [.r 0 (K1 3) 0 l.length false,.f 181 []] [some (.sl (K1 3) 0 (l.map Ac.dv))]=some (.d (I (qgD isZ l)),[some (.sl (K1 3) 0 (l.map Ac.dv))]):=by
 rw[qbW T (hN 265 qiG rfl) rfl];have hH:Cl [some (.sl (K1 3) 0 (l.map Ac.dv))]:=λr h=>by simp[qae,qav,Obj.refs]at h
 have lp:=λk r fr H=>@qKt T hN l hn k r fr H
 have hg:∀v J,gcV 1 (.d v) (some (.sl (K1 3) 0 (l.map Ac.dv))::J)=(.d v,[some (.sl (K1 3) 0 (l.map Ac.dv))]):=λv J=>qeT hH J v
 simp[qiG,qhO,Fr.Aa];refine (lp _ (λj=>some (.d (I j),[some (.sl (K1 3) 0 (l.map Ac.dv))])) _ _ ?_ (by simp)).trans ?_
 ·intro j fr J h1 h2;simp[h1,h2,qbh,qsx,hg]
 ·unfold qgD;cases l.findIdx? isZ with
  |some j=>rfl
  |none=>simp[qbh,qsx,hg]
def zM(x:Ac):Ac:=⟨0,x.Amount,x.Aw⟩
def mdv(x:Ac):DV:=.a [.s x.Aw,I x.Amount]
def Z0(g:CF Ac):Prop:=∀y∈g,y.Ai=0
def qey(x:Ac):(mdv x).cells=[.s x.Aw,I x.Amount]:=rfl
def qnI(x:Ac):fits (K1 2) (.d (mdv x))=true:=rfl
def qDG{g:CF Ac}(x:Ac)(h:Z0 g):Z0 (qaV g (zM x)):=λy hy=>by
 rcases qtH hy with h1|h1
 ·exact h y h1
 ·exact h1.1
def qxf{a b:Ac}(ha:a.Ai=0)(hb:b.Ai=0):cmL a b=qgh a.Aw b.Aw:=by
 simp[cmL,ha,hb,qgg]
def qC8(T:Tab)(hN:HN T)(hP:HP T)(y:Ac)(c:Cv):T.val 267 [mdv y,.s c]=some (.d (I (qgh y.Aw c)),false):=by
 rw[qab T (hP 267 qlC rfl) rfl];have e:=qC9 T hN y.Aw c
 simp[qlC,Fr.Aa,e,qnI,qey]
def qJV(T:Tab)(hN:HN T)(hP:HP T)(l:CF Ac)(hs:Srt l)(hz0:Z0 l)(x:Ac)(hx0:x.Ai=0)(w:DV)(t:CG)(hn:l.length<1000000){k:KC (PV×CP)}{r:CB}
  (he:∀b,k (.exit 0) [(17,.d (.b b)),(10,.d (I (plc l x))),(9,.d (I (plc l x))),(8,.d (I l.length)),(2,.f 267 []),(1,.d (.s x.Aw)),(0,.r 0 (K1 2) 0 l.length t)] [some (.sl (K1 2) 0 (l.map mdv)),some (.box (K1 3) (.d w))]=r)
  (lo hi:Nat) (h1:lo<=plc l x) (h2:plc l x<=hi) (h3:hi<=l.length) {fr:Fr} {H:CP}
  (h0:gc [0,1,2,8,9,10] 2 ⟨fr,H⟩=⟨[(10,.d (I hi)),(9,.d (I lo)),(8,.d (I l.length)),(2,.f 267 []),(1,.d (.s x.Aw)),(0,.r 0 (K1 2) 0 l.length t)],[some (.sl (K1 2) 0 (l.map mdv)),some (.box (K1 3) (.d w))]⟩) :
  kC T.env 2 fr H (.h (.loop [0,1,2,8,9,10] qos,k))=r:=by
 refine qc7 (λs:Nat×Nat=>⟨[(10,.d (I s.2)),(9,.d (I s.1)),(8,.d (I l.length)),(2,.f 267 []),(1,.d (.s x.Aw)),(0,.r 0 (K1 2) 0 l.length t)],[some (.sl (K1 2) 0 (l.map mdv)),some (.box (K1 3) (.d w))]⟩) (λs=>s.1<=plc l x/\plc l x<=s.2/\s.2<=l.length) (λs=>s.2-s.1) ?_ (lo,hi) ⟨h1,h2,h3⟩ h0
 rintro B-⟨a,b⟩ ⟨ha,hb,hc⟩ hx;simp only at ha hb hc hx⊢;have hx':=λ(s':Nat×Nat)=>hx s'
 clear hx
 by_cases hab:a<b
 ·obtain⟨m,hm⟩:∃m,(a+b)/2=m:=⟨_,rfl⟩;have g1:((a:Int)<b):=by omega
  have g2:m<l.length:=by omega
  have g3:(m:Int)<l.length:=by omega
  have w1:IntKind.i64.wrap ((a:Int)+b)=((a+b:Nat):Int):=by rw[wrI (by omega) (by omega)];omega
  have w2:IntKind.u64.wrap ((a+b:Nat):Int)=((a+b:Nat):Int):=wrU (by omega) (by omega)
  have w3:Int.fdiv ((a+b:Nat):Int) (2^min 1 IntKind.u64.bits)=(((a+b)/2:Nat):Int):=qyI (a+b)
  rw[hm]at w3;have w4:IntKind.i64.wrap (m:Int)=m:=wrI (by omega) (by omega)
  have w5:IntKind.i64.wrap ((m:Int)+1)=(m:Int)+1:=wrI (by omega) (by omega)
  obtain⟨z,hz⟩:∃z:Int,((a+b:Nat):Int)=z:=⟨_,rfl⟩;rw[hz]at w1 w2 w3;have e:=qC8 T hN hP l[m] x.Aw
  have e2:=qxe l[m] x
  rw[qxf (hz0 _ (zzs _)) hx0]at e2;simp[qos,hab,g1,g2,g3,w1,w2,w3,w4,w5,↓qaS,↓qa7,↓qw0,↓qbJ,↓qbX,↓qh3,↓qh1,qaf,zzj,e,e2];refine qaX (λh=>?_) (λh=>?_)
  ·have hlt:m<plc l x:=by
    by_cases hh:m<plc l x
    ·exact hh
    ·rw[qBw hs x m g2 (by omega)]at h;cases h
   simp[h,w4,w5,g1,g3];refine hx' (m+1,b) ⟨by omega,by omega,by omega⟩ (by simp only;omega) _ _ ?_
   simp
  ·have hge:plc l x<=m:=by
    by_cases hh:plc l x<=m
    ·exact hh
    ·rw[qqr l x m g2 (by omega)]at h;cases h
   simp[h,w4,w5,g1,g3];refine hx' (a,m) ⟨by omega,by omega,by omega⟩ (by simp only;omega) _ _ ?_
   simp
 ·have:a=b:=by omega
  subst this;have hp:plc l x=a:=by omega
  rw[hp]at he;simp[qos,he]
def qPD(T:Tab)(hN:HN T)(hP:HP T)(l:CF Ac)(hs:Srt l)(hz0:Z0 l)(x:Ac)(hx0:x.Ai=0)(w:DV)(t:CG)(hn:l.length<1000000) :
  T.ref 266 [.r 0 (K1 2) 0 l.length t,.d (.s x.Aw),.f 267 []] [some (.sl (K1 2) 0 (l.map mdv)),some (.box (K1 3) (.d w))]=some (.t [.d (I (plc l x)),.d (.b (fnd l x))],[some (.sl (K1 2) 0 (l.map mdv)),some (.box (K1 3) (.d w))]):=by
 rw[qbW T (hP 266 F266 rfl) rfl];have hH:Cl [some (.sl (K1 2) 0 (l.map mdv)),some (.box (K1 3) (.d w))]:=λr h=>by simp[qae,qav,Obj.refs,PV.refs]at h
 have lp:=λk r he fr H=>@qJV T hN hP l hs hz0 x hx0 w t hn k r he 0 l.length (zzK _) (qle l x) (zzt _) fr H
 have hgc:∀v J,gcV 2 (.t [.d v,.d (.b (fnd l x))]) (some (.sl (K1 2) 0 (l.map mdv))::some (.box (K1 3) (.d w))::J)=(.t [.d v,.d (.b (fnd l x))],[some (.sl (K1 2) 0 (l.map mdv)),some (.box (K1 3) (.d w))]):=λv J=>qdl hH (by simp[PV.refs,PV.AL])
 simp[F266,Fr.Aa];refine lp _ _ (λb=>?_) _ _ (by simp)
 by_cases hp:plc l x<l.length
 ·have e:=qC8 T hN hP l[plc l x] x.Aw
  have e2:=qxd l[plc l x] x (qld l x hp)
  rw[qxf (hz0 _ (zzs _)) hx0]at e2;have hf:fnd l x=!ltL x l[plc l x]:=by rw[fnd,zze hp]
  rw[<-hf]at e2;have g3:(plc l x:Int)<l.length:=by omega
  generalize plc l x=m at *
  simp[hp,g3,↓qbJ,↓qbX,↓qh3,↓qh1,qaf,zzj,e,e2,qbh];exact hgc _ _
 ·have hf:fnd l x=false:=by rw[fnd,List.getElem?_eq_none (by omega)]
  have hp':¬((plc l x:Int)<l.length):=by omega
  rw[hf]at hgc⊢;simp[hp,hp',qbh];exact hgc _ _
def qPE(T:Tab)(hP:HP T)(c:Cv)(w:DV) :
  T.ref 266 [.d (.l (K1 2) [] true),.d (.s c),.f 267 []] [some (.box (K1 3) (.d w))]=some (.t [.d (I 0),.d (.b false)],[some (.box (K1 3) (.d w))]):=by
 rw[qbW T (hP 266 F266 rfl) rfl];have hH:Cl [some (.box (K1 3) (.d w))]:=λr h=>by simp[qae,qav,Obj.refs,PV.refs]at h
 have hgc:∀J,gcV 1 (.t [.d (I 0),.d (.b false)]) (some (.box (K1 3) (.d w))::J)=(.t [.d (I 0),.d (.b false)],[some (.box (K1 3) (.d w))]):=λJ=>qdl hH (by simp[PV.refs,PV.AL])
 simp[F266,Fr.Aa];rw[qgK];simp;simp[qos,qbh];exact hgc _
abbrev HI2(T:Tab):Prop:=∀args H,T.ref 269 args H=qgE (K1 2) 24 args H
def qql(g:CF Ac)(h:g≠[]):qai (K1 2) (g.map mdv)=.r 0 (K1 2) 0 g.length false:=by
 cases g with
 |nil=>exact absurd rfl h
 |cons a b=>simp[qai]
def qqk(g:CF Ac)(h:g≠[]):qar (K1 2) (g.map mdv)=[some (.sl (K1 2) 0 (g.map mdv))]:=by
 cases g with
 |nil=>exact absurd rfl h
 |cons a b=>simp[qar]
def qaY(g:CF Ac)(x:Ac):CF Ac:=qaV g (zM x)
def qjI(l:Ct):(PV.d (.a l)).cells=l.map .d:=rfl
def qjc(l:Ct):DV.cells (.a l)=l:=rfl
def qtI(a b:DV):mkD (K1 2) [a,b]=some (.a [a,b]):=rfl
def qJT(T:Tab)(hN:HN T)(hP:HP T)(hI:HI2 T)(l:CF Ac)(t:CG)(hn:l.length<1000000)(ho:∀x∈l,w64 x.Amount=x.Amount){k:KC (PV×CG)}{fr:Fr}{H:CP}
  (h0:gc [3,8,9,10] 0 ⟨fr,H⟩=⟨[(10,.d (I 0)),(9,.d (I l.length)),(8,.d (.l (K1 3) (l.map Ac.dv) t)),(3,.d (.l (K1 2) [] true))],[]⟩) :
  kC T.env 0 fr H (.h (.loop [3,8,9,10] qkm,k))=k (.exit 0) [(11,.d (.b false)),(10,.d (I l.length)),(9,.d (I l.length)),(8,.d (.l (K1 3) (l.map Ac.dv) t)),(3,qai (K1 2) ((l.foldl qaY []).map mdv))] (qar (K1 2) ((l.foldl qaY []).map mdv)):=by
 rw[qbi l (λi (g:CF Ac)=>⟨[(10,.d (I i)),(9,.d (I l.length)),(8,.d (.l (K1 3) (l.map Ac.dv) t)),(3,qai (K1 2) (g.map mdv))],qar (K1 2) (g.map mdv)⟩) (λi g=>(Srt g/\Z0 g)/\g.length<=i) (λ_ g x c=>c (qaY g x)) (λg=>k (.exit 0) [(11,.d (.b false)),(10,.d (I l.length)),(9,.d (I l.length)),(8,.d (.l (K1 3) (l.map Ac.dv) t)),(3,qai (K1 2) (g.map mdv))] (qar (K1 2) (g.map mdv))) ?_ ?_ (b0:=[]) h0 ⟨⟨List.Pairwise.nil,λ_ h=>by cases h⟩,zzt _⟩]
 ·rw[qdb (λ_ g x=>qaY g x) _ _ (λ_ _ _ _=>rfl)]
  have:∀(l:CF Ac) (i:Nat) (g:CF Ac),qaj (λ_ g x=>qaY g x) i g l=l.foldl qaY g:=by
   intro l;induction l with
   |nil=>intro _ _;rfl
   |cons x l ih=>intro i g;rw[qaj,ih,List.foldl_cons]
  rw[this]
 ·intro B _ g _;cases g with
  |nil=>simp[qkm,qai,qar]
  |cons y g=>simp[qkm,qai,qar]
 ·intro B _ i g hi hg c hc;have h1:(i:Int)<l.length:=by omega
  have h3:=wr1 (i:=i) (by omega)
  have hg':(Srt (qaY g l[i])/\Z0 (qaY g l[i]))/\(qaY g l[i]).length<=i+1:=⟨⟨qqM _ hg.1.1,qDG _ hg.1.2⟩,zzL (qkT _ _) (by omega)⟩
  have hc':=λfr H=>hc (qaY g l[i]) fr H hg'
  have hw:=ho l[i] (zzs _)
  clear hc
  generalize hx:l[i]=x at *
  have hw':IntKind.i64.wrap x.Amount=x.Amount:=hw
  cases g with
  |nil=>
   have e:=qPE T hP x.Aw x.dv
   have hz:qaY [] x=[zM x]:=rfl
   rw[hz]at hc'⊢;simp[qkm,qai,qar,h1,hi,h3,hw',hx,e,hI,qgE,qa4,qcY,qc1,qc0,qay,qaC,qaB,qbZ,qaw,putAt,mkA,qaf,qau,List.drop_succ_cons,List.drop_zero,List.take_succ_cons,List.take_zero,List.cons_append,List.nil_append,qjI,qjc,qtI,qh4,↓qbJ,-qcs,↓qiy,↓qjR,↓qix,↓qbX,↓qhy];exact hc' _ _ (by simp[qai,qar,mdv,zM])
  |cons y g=>
   obtain⟨gl,hgl⟩:∃gl,y::g=gl:=⟨_,rfl⟩;have hne:y::g≠[]:=by simp
   rw[hgl]at hg hg' hc' hne⊢;simp only[qql _ hne,qqk _ hne];have hne2:qaY gl x≠[]:=qpH gl (zM x)
   simp only[qql _ hne2,qqk _ hne2]at hc';have hlen:gl.length<1000000:=by omega
   have e:=qPD T hN hP gl hg.1.1 hg.1.2 (zM x) rfl x.dv false hlen
   have ec:(zM x).Aw=x.Aw:=rfl
   rw[ec]at e;have hae:∀p (h:p<gl.length),gl[p].Ai=0:=λp h=>hg.1.2 _ (zzs _)
   cases hf:fnd gl (zM x)with
   |true=>
    rw[hf]at e;have hp:plc gl (zM x)<gl.length:=by
     unfold fnd at hf;split at hf
     ·rename_i h;exact (zzk.1 h).1
     ·cases hf
    have hl:ltL (zM x) gl[plc gl (zM x)]=false:=by
     rw[fnd,zze hp]at hf;simpa using hf
    have hins:qaY gl x=gl.set (plc gl (zM x)) (qdf gl[plc gl (zM x)] (zM x)):=qpI gl (zM x) hp hl
    rw[hins]at hc'⊢;generalize plc gl (zM x)=p at *
    have g3:(p:Int)<gl.length:=by omega
    simp[qkm,h1,hi,h3,hw',hx,e,hp,g3,zzj,qey,qcY,qc1,qc0,qay,qaC,qaB,qbZ,qaw,putAt,mkA,qaf,qau,List.drop_succ_cons,List.drop_zero,List.take_succ_cons,List.take_zero,List.cons_append,List.nil_append,qjI,qjc,qtI,qh4,↓qbJ,-qcs,↓qiy,↓qjR,↓qix,↓qbX,↓qhy];have hm:DV.a [.s gl[p].Aw,.i .i64 (IntKind.i64.wrap (gl[p].Amount+x.Amount))]=mdv (qdf gl[p] (zM x)):=rfl
    rw[hm,show (gl.map mdv).set p (mdv (qdf gl[p] (zM x)))=(gl.set p (qdf gl[p] (zM x))).map mdv from List.map_set.symm]
    exact hc' _ _ (by simp)
   |false=>
    rw[hf]at e;have hl:∀h:plc gl (zM x)<gl.length,ltL (zM x) gl[plc gl (zM x)]=true:=λh=>by
     rw[fnd,zze h]at hf;simpa using hf
    have hpl:=qle gl (zM x)
    have hins:qaY gl x=gl.take (plc gl (zM x))++zM x::gl.drop (plc gl (zM x)):=qnp gl (zM x) hl
    rw[hins]at hc'⊢;generalize plc gl (zM x)=p at *
    have g3:(p:Int)<=gl.length:=by omega
    have g4:(gl.length+1)*24<=140737488355328:=by omega
    have g5:(gl.map mdv).take gl.length=gl.map mdv:=zzv (by simp)
    have g6:Nat.beq 0 2=false:=rfl
    have g7:(p:Int)<gl.length+1:=by omega
    have g8:min p gl.length=p:=by omega
    have g9:gl.length+1<=p+(gl.length-p+1):=by omega
    have gt:(List.take p (gl.map mdv)).length=p:=by simp;omega
    have g10:∀A,(List.take p (gl.map mdv)++A::List.drop p (gl.map mdv))[p]? = some A:=λA=>by
     rw[List.getElem?_append_right (by omega),gt,Nat.sub_self];rfl
    have g11:∀A B,(List.take p (gl.map mdv)++A::List.drop p (gl.map mdv)).set p B=List.take p (gl.map mdv)++B::List.drop p (gl.map mdv):=λA B=>by
     rw[List.set_append_right _ _ (by omega),gt,Nat.sub_self];rfl
    simp[qkm,h1,hi,h3,hw',hx,e,hI,qgE,qa4,g3,g4,g5,g6,g7,g8,g9,g10,g11,qey,qcY,qc1,qc0,qay,qaC,qaB,qbZ,qaw,putAt,mkA,qaf,qau,List.drop_succ_cons,List.drop_zero,List.take_succ_cons,List.take_zero,List.cons_append,List.nil_append,qjI,qjc,qtI,qh4,↓qbJ,-qcs,↓qiy,↓qjR,↓qix,↓qbX,↓qhy];have hm:DV.a [.s x.Aw,.i .i64 x.Amount]=mdv (zM x):=rfl
    rw[hm];refine hc' _ _ ?_;simp;omega
def qRj(T:Tab)(hN:HN T)(hP:HP T)(hI:HI2 T)(l:CF Ac)(t:CG)(hn:l.length<1000000)(ho:∀x∈l,w64 x.Amount=x.Amount):T.val 186 [.l (K1 3) (l.map Ac.dv) t]=some (.d (.l (K1 2) ((l.foldl qaY []).map mdv) false),true):=by
 rw[qab T (hP 186 F186 rfl) rfl];have lp:=λk fr H=>@qJT T hN hP hI l t hn ho k fr H
 simp[F186,Fr.Aa];refine (lp _ _ _ (by simp)).trans ?_
 cases l.foldl qaY []with
 |nil=>simp[qai,qar]
 |cons x g=>
  have ht:(g.map mdv).take g.length=g.map mdv:=zzv (by simp)
  simp[qai,qar,ht]
def qbR(x:Ac):CG:=x.Amount != 0
structure DelI (l:List Ac) (j i:Nat) (e:List Ac):Prop where
 len:e.length=l.length
 ij:i<=j
 jn:j<=l.length
 pre:e.take i=(l.take j).filter qbR
 suf:e.drop j=l.drop j
def DelI.getJ{l:CF Ac}{j i:Nat}{e:CF Ac}(h:DelI l j i e)(hj:j<l.length):e[j]? = some l[j]:=by
 have:=congrArg (λx=>x[0]?) h.suf
 simp only[List.getElem?_drop,Nat.add_zero]at this;rw[this,zze hj]
def DelI.skip{l:CF Ac}{j i:Nat}{e:CF Ac}(h:DelI l j i e)(hj:j<l.length)(hz:qbR l[j]=false):DelI l (j+1) i e where
 len:=h.len
 ij:=by have:=h.ij;omega
 jn:=hj
 pre:=by rw[zzw hj,List.filter_append,h.pre];simp[hz]
 suf:=by rw[<-List.drop_drop,h.suf,List.drop_drop]
def DelI.keep{l:CF Ac}{j i:Nat}{e:CF Ac}(h:DelI l j i e)(hj:j<l.length)(hz:qbR l[j]=true):DelI l (j+1) (i+1) (e.set i l[j]) where
 len:=by simp[h.len]
 ij:=by have:=h.ij;omega
 jn:=hj
 pre:=by
  have h1:=h.ij
  have h2:=h.len
  rw[zzw hj,List.filter_append,<-h.pre];rw[zzw (by simp;omega)]
  simp[hz,List.take_set_of_le]
 suf:=by
  have h1:=h.ij
  rw[List.drop_set_of_lt (by omega),<-List.drop_drop,h.suf,List.drop_drop]
def qJQ(T:Tab)(hN:HN T)(l:CF Ac)(hn:l.length<1000000){k:KC (PV×CP)}{r:CB}{fr:Fr}{H:CP}(j0 i0:Nat)(e0:CF Ac)(hI:DelI l j0 i0 e0)
  (hr:∀(i:Nat) (e:CF Ac),DelI l l.length i e->k (.exit 0) [(19,.d (.b false)),(6,.d (I l.length)),(5,.d (I i)),(1,.f 181 []),(0,.r 0 (K1 3) 0 l.length false)] [some (.sl (K1 3) 0 (e.map Ac.dv))]=r)
  (h0:gc [0,1,5,6] 1 ⟨fr,H⟩=⟨[(6,.d (I j0)),(5,.d (I i0)),(1,.f 181 []),(0,.r 0 (K1 3) 0 l.length false)],[some (.sl (K1 3) 0 (e0.map Ac.dv))]⟩) :
  kC T.env 1 fr H (.h (.loop [0,1,5,6] qrb,k))=r:=by
 refine qc7 (λs:Nat×Nat×CF Ac=>⟨[(6,.d (I s.1)),(5,.d (I s.2.1)),(1,.f 181 []),(0,.r 0 (K1 3) 0 l.length false)],[some (.sl (K1 3) 0 (s.2.2.map Ac.dv))]⟩) (λs=>DelI l s.1 s.2.1 s.2.2) (λs=>l.length-s.1) ?_ (j0,i0,e0) hI h0
 rintro B-⟨j,i,e⟩ hI hx;simp only at hI hx⊢;have hx':=λ(s':Nat×Nat×CF Ac)=>hx s'
 clear hx
 have hel:=hI.len
 have hij:=hI.ij
 by_cases hj:j<l.length
 ·have g1:(j:Int)<l.length:=by omega
  have hgj:=hI.getJ hj
  have g2:(i:Int)<l.length:=by omega
  have g3:i<l.length:=by omega
  have w1:IntKind.i64.wrap ((j:Int)+1)=(j:Int)+1:=wrI (by omega) (by omega)
  have w2:IntKind.i64.wrap ((i:Int)+1)=(i:Int)+1:=wrI (by omega) (by omega)
  have he:=qC4 T hN l[j]
  have hk:=hI.keep hj
  have hs:=hI.skip hj
  have hq:(l[j].Amount==0)=!qbR l[j]:=by simp[qbR,bne]
  rw[hq]at he;have hje:j<e.length:=by omega
  have hx:l[j]=e[j]:=by rw[zze hje]at hgj;exact (Option.some.inj hgj).symm
  simp only[hx]at he hk hs;clear hgj hx hq
  have g4:i<e.length:=by omega
  simp[qrb,hj,g1,g2,g3,w1,w2,he,hel,↓qbJ,↓qbX,qaf,zzj,-qcs,↓qiy,↓qjR,↓qix];refine qaX (λh=>?_) (λh=>?_)
  ·simp[w1,w2,g1,g2,g3,g4,hel,↓qbJ,↓qbX,-qcs,↓qiy,↓qjR,↓qix];refine hx' (j+1,i+1,e.set i e[j]) (hk h) (by simp only;omega) _ _ ?_
   rw[show ∀v:Ac,(e.map Ac.dv).set i v.dv=(e.set i v).map Ac.dv from λv=>List.map_set.symm]
   simp
  ·simp[w1,w2,g1];exact hx' (j+1,i,e) (hs h) (by simp only;omega) _ _ (by simp)
 ·have hj':j=l.length:=by have:=hI.jn;omega
  subst hj';simp[qrb,hel,hr i e hI]
def DelI.start{l:CF Ac}{p:Nat}(h:l.findIdx? isZ=some p):DelI l (p+1) p l:=by
 obtain⟨hp,h1,h2⟩:=List.findIdx?_eq_some_iff_getElem.1 h;refine⟨rfl,by omega,hp,?_,rfl⟩
 have hz:qbR l[p]=false:=by simpa[qbR,isZ]using h1
 rw[zzw hp,List.filter_append];simp only[List.filter_cons,hz,zzg,if_false,List.filter_nil,List.append_nil];symm
 rw[List.filter_eq_self];intro x hx;obtain⟨i,hi,rfl⟩:=zzO hx;rw[List.getElem_take]
 have:=h2 i (by rw[zzI]at hi;omega)
 simpa[qbR,isZ]using this
def qPy(T:Tab)(hN:HN T)(l:CF Ac)(hn:l.length<1000000):∃es:Ct,es.take (l.filter qbR).length=(l.filter qbR).map Ac.dv/\(l.filter qbR).length<=es.length/\T.ref 180 [.r 0 (K1 3) 0 l.length false,.f 181 []] [some (.sl (K1 3) 0 (l.map Ac.dv))]=some (.r 0 (K1 3) 0 (l.filter qbR).length false,[some (.sl (K1 3) 0 es)]):=by
 have hm:=mxl
 have e1:=qPC T hN l (by omega)
 have hH:∀es:Ct,Cl [some (.sl (K1 3) 0 es)]:=λes r h=>by simp[qae,qav,Obj.refs]at h
 have hgc:∀(es:Ct) off len J,gcV 1 (.r 0 (K1 3) off len false) (some (.sl (K1 3) 0 es)::J)=(.r 0 (K1 3) off len false,[some (.sl (K1 3) 0 es)]):=λes off len J=>qdl (hH es) (by simp[PV.refs])
 rw[qbW T (hN 180 F180 rfl) rfl];unfold qgD at e1;cases hf:l.findIdx? isZ with
 |none=>
  rw[hf]at e1;have hall:l.filter qbR=l:=by
   rw[List.filter_eq_self];intro x hx
   have:=List.findIdx?_eq_none_iff.1 hf x hx
   simpa[qbR,isZ]using this
  refine⟨l.map Ac.dv,by rw[hall];exact zzv (by simp),by rw[hall];simp,?_⟩
  rw[hall];simp[F180,Fr.Aa,e1,qbh,hgc]
 |some p=>
  rw[hf]at e1;have hp:p<l.length:=(List.findIdx?_eq_some_iff_findIdx_eq.1 hf).1
  have w1:IntKind.i64.wrap ((p:Int)+1)=(p:Int)+1:=wrI (by omega) (by omega)
  have g0:((p:Int) == -1)=false:=by simp
  have hml:(l.filter qbR).length<=l.length:=List.length_filter_le _ _
  refine⟨(l.filter qbR).map Ac.dv++List.replicate (l.length-(l.filter qbR).length) (.a [I 0,I 0,.s []]),by rw[List.take_append_of_le_length (by simp)];exact zzv (by simp),by simp,?_⟩
  simp[F180,Fr.Aa,e1,g0,w1];refine qJQ T hN l hn (p+1) p l (DelI.start hf) (λi e hI=>?_) (by simp)
  have hel:=hI.len
  have hi:i=(l.filter qbR).length:=by
   have:=congrArg List.length hI.pre
   rw[zzv (zzt l.length),zzI]at this
   have:=hI.ij
   omega
  have hpre:=hI.pre
  rw[zzv (zzt l.length)]at hpre;have g1:(i:Int)<=l.length:=by omega
  have g2:i<=l.length:=by omega
  have g3:i+(l.length-i)=l.length:=by omega
  have g4:(putAt (e.map Ac.dv) i (List.replicate (l.length-i) (.a [I 0,I 0,.s []]))).length=l.length:=by simp[putAt];omega
  have hput:putAt (e.map Ac.dv) i (List.replicate (l.length-i) (.a [I 0,I 0,.s []]))=(l.filter qbR).map Ac.dv++List.replicate (l.length-(l.filter qbR).length) (.a [I 0,I 0,.s []]):=by
   rw[putAt,<-List.map_take,hpre,List.length_replicate,zzF (by simp;omega),List.append_nil,hi]
  rw[<-hput,<-hi];simp[↓qoZ,↓qE1,↓qFG,g1,g2,g3,g4,hel,qbh,hgc]
def qC2(T:Tab)(hN:HN T)(hI:HI T)(l:CF Ac)(t:CG)(hn:l.length<1000000):T.val 110 [.l (K1 3) (l.map Ac.dv) t]=some (.d (.l (K1 3) ((qba l).map Ac.dv) false),true):=by
 rw[qab T (hN 110 qlu rfl) rfl];have e1:=qRg T hN hI l t hn
 have hl:=qsA l []
 have hd:qba l=(l.foldl qaV []).filter qbR:=rfl
 rw[hd];generalize l.foldl qaV []=g at *
 obtain⟨es,h1,h2,e2⟩:=qPy T hN g (by simp at hl;omega)
 simp[qlu,Fr.Aa,e1,↓qeK,↓qe4,e2,h1,h2]
section
variable {R:Type}{H:CP}{id:Nat}{q:PV->CP->CE R}{k:K}{b:Nat}
def qoV{o off len:Nat}{k':K}{ys:Ct}:bo2 (qcI H id k b (.r o k' off len false) ys) (.h q)=match H.obj o with
  |some (.sl k'' ro es)=>chk ((K.eq k k'&&K.eq k k''&&decide (off+len<=es.length)&&decide ((len+ys.length)*b<=2^47))=true) (.h (chk (ro<=off+len) (.h (q (.r id k 0 (len+ys.length) false) ((H.put o none).put id (some (.sl k (ro-off) ((es.drop off).take len++ys))))))))
  |_=>none:=by
 simp only[qcI,qbU,qa4,qck,Bool.true_or,if_true,zzg,if_false];cases H.obj o with
 |none=>rfl
 |some w=>
  cases w with
  |sl k'' ro es=>
   simp only[chk];by_cases h:(K.eq k k'&&K.eq k k''&&decide (off+len<=es.length)&&decide ((len+ys.length)*b<=2^47))=true
   ·simp only[h,if_true];by_cases g:ro<=off+len
    ·simp only[g,if_true];rfl
    ·simp only[g,if_false];rfl
   ·simp only[h,if_false,zzg];rfl
  |_=>rfl
end
def qKv{α:Type}(m:CF α)(x:α)(p n:Nat)(hp:p<=n)(hn:m.length=n):(((m.take p).take p++[x]).take (p+1))++(m.drop p).take (n-p)=m.take p++x::m.drop p:=by
 subst hn;have a:(m.take p++[x]).take (p+1)=m.take p++[x]:=zzv (by simp;omega)
 have b:(m.drop p).take (m.length-p)=m.drop p:=zzv (by simp)
 rw[List.take_take,Nat.min_self,a,b];simp
def qKw{α:Type}(m:CF α)(x:α)(p n:Nat)(hp:p<n)(hn:m.length=n):(((m.take p).take p++[x]).take (p+1))++(m.drop (p+1)).take (n-(p+1))=m.set p x:=by
 subst hn;have a:(m.take p++[x]).take (p+1)=m.take p++[x]:=zzv (by simp;omega)
 have b:(m.drop (p+1)).take (m.length-(p+1))=m.drop (p+1):=zzv (by simp)
 rw[List.take_take,Nat.min_self,a,b,List.set_eq_take_append_cons_drop,if_pos hp];simp
def qtG{a b:Ac}(ha:a.Ai=0)(hb:b.Ai=0):ltL a b=Op.bytesLess a.Aw b.Aw:=by
 simp[ltL,ha,hb]
def qKc(T:Tab)(l g:CF Ac)(hz0:Z0 g)(t:CG)(i:Nat)(hi:i<l.length)(hn:l.length<1000000)(hg:g.length<1000000){k:KC (PV×CG)}{r:Cz}{fr:Fr}{H:CP}
  (he:∀b,k (.exit 2) [(30,.d (.b b)),(6,.d (I (plc g (zM l[i])))),(5,.d (.l (K1 2) [] true)),(4,.d (I i)),(3,.r 0 (K1 2) 0 g.length false),(0,.d (.l (K1 3) (l.map Ac.dv) t))] [some (.sl (K1 2) 0 (g.map mdv))]=r)
  (h0:gc [0,3,4,5,6] 0 ⟨fr,H⟩=⟨[(6,.d (I 0)),(5,.d (.l (K1 2) [] true)),(4,.d (I i)),(3,.r 0 (K1 2) 0 g.length false),(0,.d (.l (K1 3) (l.map Ac.dv) t))],[some (.sl (K1 2) 0 (g.map mdv))]⟩) :
  kC T.env 0 fr H (.h (.loop [0,3,4,5,6] qmL,k))=r:=by
 have h1:(i:Int)<l.length:=by omega
 refine qil (λj:Nat=>⟨[(6,.d (I j)),(5,.d (.l (K1 2) [] true)),(4,.d (I i)),(3,.r 0 (K1 2) 0 g.length false),(0,.d (.l (K1 3) (l.map Ac.dv) t))],[some (.sl (K1 2) 0 (g.map mdv))]⟩) (λj=>j) (plc g (zM l[i])) ?_ ?_ (by rw[h0];rfl)
 ·intro B _;by_cases hp:plc g (zM l[i])<g.length
  ·have hat:=qld g (zM l[i]) hp
   rw[qtG (hz0 _ (zzs _)) rfl]at hat;have ec:(zM l[i]).Aw=l[i].Aw:=rfl
   rw[ec]at hat;generalize plc g (zM l[i])=p at *
   have g1:(p:Int)<g.length:=by omega
   simp[qmL,hp,g1,hi,h1,↓qbJ,↓qbX,↓qhy,zzj,qey,↓qm2,hat,he]
  ·have hp':¬((plc g (zM l[i]):Int)<g.length):=by omega
   simp[qmL,hp,hp',hi,h1,↓qbJ,↓qbX,he]
 ·intro B _ j hj c hc;have hjg:j<g.length:=Nat.lt_of_lt_of_le hj (qle _ _)
  have hlt:=qqr g (zM l[i]) j hjg hj
  rw[qtG (hz0 _ (zzs _)) rfl]at hlt;have ec:(zM l[i]).Aw=l[i].Aw:=rfl
  rw[ec]at hlt;have g1:(j:Int)<g.length:=by omega
  have w:IntKind.i64.wrap ((j:Int)+1)=(j:Int)+1:=wrI (by omega) (by omega)
  simp[qmL,hjg,g1,hi,h1,w,↓qbJ,↓qbX,↓qhy,zzj,qey,↓qm2,hlt];exact hc _ _ (by simp)
def qKd(T:Tab)(l:CF Ac)(t:CG)(hn:l.length<1000000)(ho:∀x∈l,w64 x.Amount=x.Amount){k:KC (PV×CG)}{fr:Fr}{H:CP}
  (h0:gc [0,3,4] 0 ⟨fr,H⟩=⟨[(4,.d (I 0)),(3,.d (.l (K1 2) [] true)),(0,.d (.l (K1 3) (l.map Ac.dv) t))],[]⟩) :
  kC T.env 0 fr H (.h (.loop [0,3,4] qks,k))=k (.exit 0) [(11,.d (.b false)),(4,.d (I l.length)),(3,qai (K1 2) ((l.foldl qaY []).map mdv)),(0,.d (.l (K1 3) (l.map Ac.dv) t))] (qar (K1 2) ((l.foldl qaY []).map mdv)):=by
 rw[qbi l (λi (g:CF Ac)=>⟨[(4,.d (I i)),(3,qai (K1 2) (g.map mdv)),(0,.d (.l (K1 3) (l.map Ac.dv) t))],qar (K1 2) (g.map mdv)⟩) (λi g=>(Srt g/\Z0 g)/\g.length<=i) (λ_ g x c=>c (qaY g x)) (λg=>k (.exit 0) [(11,.d (.b false)),(4,.d (I l.length)),(3,qai (K1 2) (g.map mdv)),(0,.d (.l (K1 3) (l.map Ac.dv) t))] (qar (K1 2) (g.map mdv))) ?_ ?_ (b0:=[]) h0 ⟨⟨List.Pairwise.nil,λ_ h=>by cases h⟩,zzt _⟩]
 ·rw[qdb (λ_ g x=>qaY g x) _ _ (λ_ _ _ _=>rfl)]
  have:∀(l:CF Ac) (i:Nat) (g:CF Ac),qaj (λ_ g x=>qaY g x) i g l=l.foldl qaY g:=by
   intro l;induction l with
   |nil=>intro _ _;rfl
   |cons x l ih=>intro i g;rw[qaj,ih,List.foldl_cons]
  rw[this]
 ·intro B _ g _;cases g with
  |nil=>simp[qks,qai,qar]
  |cons y g=>simp[qks,qai,qar]
 ·intro B _ i g hi hg c hc;have h1:(i:Int)<l.length:=by omega
  have h3:=wr1 (i:=i) (by omega)
  have hg':(Srt (qaY g l[i])/\Z0 (qaY g l[i]))/\(qaY g l[i]).length<=i+1:=⟨⟨qqM _ hg.1.1,qDG _ hg.1.2⟩,zzL (qkT _ _) (by omega)⟩
  have hc':=λfr H=>hc (qaY g l[i]) fr H hg'
  clear hc
  cases g with
  |nil=>
   have hz:qaY [] l[i]=[zM l[i]]:=rfl
   rw[hz]at hc'⊢;simp[qks,qai,qar,h1,hi,h3];rw[qgK];simp;simp[qmL,h1,hi,h3,↓qFd,↓qoV,qcY,qc1,qc0,qay,qaC,qaB,qbZ,qaw,putAt,mkA,qaf,qau,List.drop_succ_cons,List.drop_zero,List.take_succ_cons,List.take_zero,List.cons_append,List.nil_append,qjI,qjc,qh4];exact hc' _ _ (by simp[qai,qar,mdv,zM])
  |cons y g=>
   obtain⟨gl,hgl⟩:∃gl,y::g=gl:=⟨_,rfl⟩;have hne:y::g≠[]:=by simp
   rw[hgl]at hg hg' hc' hne⊢;simp only[qql _ hne,qqk _ hne];have hne2:qaY gl l[i]≠[]:=qpH gl (zM l[i])
   simp only[qql _ hne2,qqk _ hne2]at hc';have hlen:gl.length<1000000:=by omega
   have lp:=λk r he fr H=>@qKc T l gl hg.1.2 t i hi hn hlen k r fr H he
   have hpl:=qle gl (zM l[i])
   simp[qks,h1,hi,h3];refine lp _ _ (λb=>?_) _ _ (by simp)
   have hae:∀p (h:p<gl.length),gl[p].Ai=0:=λp h=>hg.1.2 _ (zzs _)
   have hwx:=ho l[i] (zzs _)
   obtain⟨x,hx⟩:∃x,l[i]=x:=⟨_,rfl⟩;simp only[hx]at hc' hpl hg' hwx⊢;have ht:(gl.map mdv).take gl.length=gl.map mdv:=zzv (by simp)
   by_cases hp:plc gl (zM x)<gl.length
   ·have hat:=qld gl (zM x) hp
    by_cases hl:ltL (zM x) gl[plc gl (zM x)]=true
    ·have hins:qaY gl x=gl.take (plc gl (zM x))++zM x::gl.drop (plc gl (zM x)):=qnp gl (zM x) (λ_=>hl)
     rw[hins]at hc'⊢;rw[qtG rfl (hae _ hp)]at hl;have hq:(gl[plc gl (zM x)].Aw==x.Aw)=false:=by
      have ec:(zM x).Aw=x.Aw:=rfl
      rw[ec]at hl;have:gl[plc gl (zM x)].Aw≠x.Aw:=λh=>by rw[h,qrS]at hl;cases hl
      simpa using this
     generalize plc gl (zM x)=p at *
     have g1:(p:Int)<gl.length:=by omega
     have g2:(p:Int)<=gl.length:=by omega
     have g4:p*24<=140737488355328:=by omega
     have g5:(p+1)*24<=140737488355328:=by omega
     have g6:(p+1+(gl.length-p))*24<=140737488355328:=by omega
     have g7:p+(gl.length-p)=gl.length:=by omega
     have g8:min p gl.length=p:=by omega
     have g9:((gl.map mdv).take p).length=p:=by simp;omega
     simp[hx,hi,h1,h3,hp,hpl,g1,g2,g4,g5,g6,g7,g8,g9,hq,ht,zzj,qey,↓qbJ,↓qbX,↓qhy,↓qoZ,↓qoV,qcY,qc1,qc0,qay,qaC,qaB,qbZ,qaw,putAt,mkA,qaf,qau,List.drop_succ_cons,List.drop_zero,List.take_succ_cons,List.take_zero,List.cons_append,List.nil_append,qjI,qjc,qh4];refine hc' _ _ ?_;have hm:DV.a [.s x.Aw,.i .i64 x.Amount]=mdv (zM x):=rfl
     rw[hm,qKv (gl.map mdv) (mdv (zM x)) p gl.length (by omega) (by simp)]
     simp;omega
    ·have hl':ltL (zM x) gl[plc gl (zM x)]=false:=by simpa using hl
     have hins:qaY gl x=gl.set (plc gl (zM x)) (qdf gl[plc gl (zM x)] (zM x)):=qpI gl (zM x) hp hl'
     rw[hins]at hc'⊢;have hk:=qtF hl' hat
     have hq:gl[plc gl (zM x)].Aw=x.Aw:=hk.2.symm
     have hq2:(gl[plc gl (zM x)].Aw==x.Aw)=true:=by simpa using hq
     generalize plc gl (zM x)=p at *
     have g1:(p:Int)<gl.length:=by omega
     have g2:(p:Int)<=gl.length:=by omega
     have g4:p*24<=140737488355328:=by omega
     have g5:(p+1)*24<=140737488355328:=by omega
     have g6:(p+1+(gl.length-(p+1)))*24<=140737488355328:=by omega
     have g7:p+(gl.length-p)=gl.length:=by omega
     have g7':p+1+(gl.length-(p+1))=gl.length:=by omega
     have g8:min p gl.length=p:=by omega
     have g9:((gl.map mdv).take p).length=p:=by simp;omega
     have g10:(p:Int)+1<=gl.length:=by omega
     have g11:(0:Int)<=(p:Int)+1:=by omega
     have g12:((p:Int)+1).toNat=p+1:=by omega
     have g13:gl.length*24<=140737488355328:=by omega
     have w:IntKind.i64.wrap ((p:Int)+1)=(p:Int)+1:=wrI (by omega) (by omega)
     simp[hx,hi,h1,h3,hp,hpl,g1,g2,g4,g5,g6,g7,g7',g8,g9,g10,g11,g12,g13,w,hq2,ht,zzj,qey,↓qbJ,↓qbX,↓qhy,↓qoZ,↓qoV,qcY,qc1,qc0,qay,qaC,qaB,qbZ,qaw,putAt,mkA,qaf,qau,List.drop_succ_cons,List.drop_zero,List.take_succ_cons,List.take_zero,List.cons_append,List.nil_append,qjI,qjc,qh4];refine hc' _ _ ?_;have hm:DV.a [.s x.Aw,.i .i64 (IntKind.i64.wrap (x.Amount+gl[p].Amount))]=mdv (qdf gl[p] (zM x)):=by
      show _=DV.a [.s gl[p].Aw,.i .i64 (w64 (gl[p].Amount+x.Amount))]
      rw[hq,w64,Int.add_comm]
     rw[hm,qKw (gl.map mdv) (mdv (qdf gl[p] (zM x))) p gl.length (by omega) (by simp)]
     rw[show (gl.map mdv).set p (mdv (qdf gl[p] (zM x)))=(gl.set p (qdf gl[p] (zM x))).map mdv from List.map_set.symm]
     simp[g7']
   ·have hins:qaY gl x=gl.take (plc gl (zM x))++zM x::gl.drop (plc gl (zM x)):=qnp gl (zM x) (λh=>absurd h hp)
    rw[hins]at hc'⊢;have hpe:plc gl (zM x)=gl.length:=by omega
    rw[hpe]at hc'⊢;clear hp hpe hpl hins lp hae
    generalize hz:gl.length=n at *
    have g4:n*24<=140737488355328:=by omega
    have g5:(n+1)*24<=140737488355328:=by omega
    have g9:((gl.map mdv).take n).length=n:=by simp;omega
    simp[hx,hi,h1,h3,hz,g4,g5,g9,ht,↓qbJ,↓qbX,↓qoZ,↓qoV,qcY,qc1,qc0,qay,qaC,qaB,qbZ,qaw,putAt,mkA,qaf,qau,List.drop_succ_cons,List.drop_zero,List.take_succ_cons,List.take_zero,List.cons_append,List.nil_append,qjI,qjc,qh4];refine hc' _ _ ?_;have hm:DV.a [.s x.Aw,.i .i64 x.Amount]=mdv (zM x):=rfl
    rw[hm,zzv (by simp;omega)]
    have a1:gl.take n=gl:=zzv (by omega)
    have a2:gl.drop n=[]:=zzF (by omega)
    rw[a1,a2];simp[hz]
def qDr(T:Tab)(hP:HP T)(l:CF Ac)(t:CG)(hn:l.length<1000000)(ho:∀x∈l,w64 x.Amount=x.Amount):T.val 771 [.l (K1 3) (l.map Ac.dv) t]=some (.d (.l (K1 2) ((l.foldl qaY []).map mdv) false),true):=by
 rw[qab T (hP 771 F771 rfl) rfl];have lp:=λk fr H=>@qKd T l t hn ho k fr H
 simp[F771,Fr.Aa];refine (lp _ _ _ (by simp)).trans ?_
 cases l.foldl qaY []with
 |nil=>simp[qai,qar]
 |cons x g=>
  have ht:(g.map mdv).take g.length=g.map mdv:=zzv (by simp)
  simp[qai,qar,ht]
def qmY(x:Ac):CG:=decide (x.Ai<1)||(decide (x.Amount=0)||(decide (x.Amount < -1000000000000)||decide (1000000000000<x.Amount)))
def qcf(x:Ac):Int:=if qmY x=true then 1 else if qkF x.Aw=true then 0 else 14
def qb8:CF Ac->Int
 |[]=>0
 |x::l=>if qcf x=0 then qb8 l else qcf x
def qkx(g:CF Ac):CG:=g.all λx=>x.Amount==0
def qcc(e:Af):Int:=if qig e.Key=true then (if (qdN e.Text 32 64&&(qa3 e.AU&&(qa3 e.Value&&(qa3 e.BL&&(!decide (e.Kind<1)&&(!decide (14<e.Kind)&&(!decide (e.Auth<0) && !decide (3<e.Auth))))))))=true then (if e.Ad.l.length<2\/12<e.Ad.l.length then 5 else if qb8 e.Ad.l=0 then (if qkx (e.Ad.l.foldl qaY [])=true then 0 else 15)else qb8 e.Ad.l)else 1)else 4
def qR9(T:Tab)(hP:HP T)(x:Ac)(hx:x.Aw.length<=maxLen):T.val 770 [x.dv]=some (.d (I (qcf x)),false):=by
 rw[qab T (hP 770 qke rfl) rfl];have e:=qSf T hP x.Aw hx
 unfold qcf qmY;simp[qke,Fr.Aa,e];repeat' (refine qaX (λh=>?_) (λh=>?_)<;>(try simp at h)<;>(try simp[h,e]))
 all_goals first|omega|simp_all
def quC{R:Type}(r:Int->CE R)(done:Unit->CE R)(step:Nat->Unit->Ac->(Unit->CE R)->CE R)(hs:∀i b x c,step i b x c=if qcf x=0 then c ()else r (qcf x)):∀(i:Nat) (ls:CF Ac),rounds step done i () ls=if qb8 ls=0 then done ()else r (qb8 ls)
 |i,[]=>by simp[rounds,qb8]
 |i,x::l=>by
  rw[rounds,hs,quC r done step hs (i+1) l,qb8];by_cases h:qcf x=0
  ·simp[h]
  ·simp[h]
def qAo(T:Tab)(hP:HP T)(e:Af)(hn:e.Ad.l.length<=maxLen)(ho:∀x∈e.Ad.l,x.ok){k:KC (PV×CG)}{r:Int->Cz}{fr:Fr}{H:CP}(hr:∀fr H n,fr.get 2=.d (I n)->qan fr=[]->k .ret fr H=r n)
  (h0:gc [1,3] 0 ⟨fr,H⟩=⟨[(3,.d (I 0)),(1,.p 0 0 0)],[some (.box (K1 10) (.d e.dv))]⟩) :
  kC T.env 0 fr H (.h (.loop [1,3] qoy,k))=if qb8 e.Ad.l=0 then k (.exit 0) [(72,.d (.b false)),(3,.d (I e.Ad.l.length)),(1,.p 0 0 0)] [some (.box (K1 10) (.d e.dv))]else r (qb8 e.Ad.l):=by
 have hm:=mxl
 rw[qbi e.Ad.l (λi _=>⟨[(3,.d (I i)),(1,.p 0 0 0)],[some (.box (K1 10) (.d e.dv))]⟩) (λ_ _=>True) (λi _ x c=>if qcf x=0 then c ()else r (qcf x)) (λ_=>k (.exit 0) [(72,.d (.b false)),(3,.d (I e.Ad.l.length)),(1,.p 0 0 0)] [some (.box (K1 10) (.d e.dv))]) ?_ ?_ h0 trivial]
 ·exact quC r _ _ (λ_ _ _ _=>rfl) 0 _
 ·intro B _ _ _;simp[qoy]
 ·intro B _ i _ hi _ c hc;have h1:(i:Int)<e.Ad.l.length:=by omega
  have h3:=wr1 (i:=i) (by omega)
  have ev:=qR9 T hP e.Ad.l[i] (ho _ (zzs _)).2.2
  by_cases hz:qcf e.Ad.l[i]=0
  ·rw[if_pos hz];rw[hz]at ev;simp[qoy,h1,hi,h3,ev,bne];exact hc () _ _ trivial (by simp)
  ·rw[if_neg hz];have hz':(qcf e.Ad.l[i]==0)=false:=by simpa using hz
   simp[qoy,h1,hi,h3,ev,hz,hz',bne];exact hr _ _ _ (by simp[Fr.get]) (by simp[qan,gh])
def qJN(T:Tab)(hP:HP T)(e:Af)(hn:e.Ad.l.length<=maxLen)(ho:∀x∈e.Ad.l,x.ok){k:KC (PV×CG)}{r:Int->Cz}{fr:Fr}{H:CP}(hr:∀fr H n,fr.get 2=.d (I n)->qan fr=[]->k .ret fr H=r n)
  (h0:gc [1,66,67,68] 0 ⟨fr,H⟩=⟨[(68,.d (I 0)),(67,.d (I e.Ad.l.length)),(66,.d (.l (K1 3) (e.Ad.l.map Ac.dv) e.Ad.t)),(1,.p 0 0 0)],[some (.box (K1 10) (.d e.dv))]⟩) :
  kC T.env 0 fr H (.h (.loop [1,66,67,68] qhQ,k))=if qb8 e.Ad.l=0 then k (.exit 1) [(69,.d (.b false)),(68,.d (I e.Ad.l.length)),(67,.d (I e.Ad.l.length)),(66,.d (.l (K1 3) (e.Ad.l.map Ac.dv) e.Ad.t)),(1,.p 0 0 0)] [some (.box (K1 10) (.d e.dv))]else r (qb8 e.Ad.l):=by
 have hm:=mxl
 rw[qbi e.Ad.l (λi _=>⟨[(68,.d (I i)),(67,.d (I e.Ad.l.length)),(66,.d (.l (K1 3) (e.Ad.l.map Ac.dv) e.Ad.t)),(1,.p 0 0 0)],[some (.box (K1 10) (.d e.dv))]⟩) (λ_ _=>True) (λi _ x c=>if qcf x=0 then c ()else r (qcf x)) (λ_=>k (.exit 1) [(69,.d (.b false)),(68,.d (I e.Ad.l.length)),(67,.d (I e.Ad.l.length)),(66,.d (.l (K1 3) (e.Ad.l.map Ac.dv) e.Ad.t)),(1,.p 0 0 0)] [some (.box (K1 10) (.d e.dv))]) ?_ ?_ h0 trivial]
 ·exact quC r _ _ (λ_ _ _ _=>rfl) 0 _
 ·intro B _ _ _;simp[qhQ]
 ·intro B _ i _ hi _ c hc;have h1:(i:Int)<e.Ad.l.length:=by omega
  have h3:=wr1 (i:=i) (by omega)
  have ev:=qRi T hP e.Ad.l[i].Aw (ho _ (zzs _)).2.2
  unfold qcf qmY;by_cases z1:e.Ad.l[i].Ai<1
  ·simp[qhQ,h1,hi,h3,ev,z1];exact hr _ _ _ (by simp[Fr.get]) (by simp[qan,gh])
  ·have q1:decide (e.Ad.l[i].Ai<1)=false:=by simpa using z1
   by_cases z2:e.Ad.l[i].Amount=0
   ·simp[qhQ,h1,hi,h3,ev,z1,z2];exact hr _ _ _ (by simp[Fr.get]) (by simp[qan,gh])
   ·have q2:(e.Ad.l[i].Amount==0)=false:=by simpa using z2
    by_cases z3:e.Ad.l[i].Amount < -1000000000000
    ·simp[qhQ,h1,hi,h3,ev,z1,z2,q2,z3];exact hr _ _ _ (by simp[Fr.get]) (by simp[qan,gh])
    ·by_cases z4:1000000000000<e.Ad.l[i].Amount
     ·simp[qhQ,h1,hi,h3,ev,z1,z2,q2,z3,z4];exact hr _ _ _ (by simp[Fr.get]) (by simp[qan,gh])
     ·cases hc2:qkF e.Ad.l[i].Aw with
      |true=>
       rw[hc2]at ev;simp[qhQ,h1,hi,h3,ev,z1,z2,q2,z3,z4,hc2];exact hc () _ _ trivial (by simp)
      |false=>
       rw[hc2]at ev;simp[qhQ,h1,hi,h3,ev,z1,z2,q2,z3,z4,hc2];exact hr _ _ _ (by simp[Fr.get]) (by simp[qan,gh])
def qJO(T:Tab)(g:CF Ac)(hn:g.length<=100){k:KC (PV×CG)}{r:Cz}{fr:Fr}{H:CP}(hr:∀fr H,fr.get 2=.d (I 15)->qan fr=[]->k .ret fr H=r)
  (h0:gc [97,98,99] 0 ⟨fr,H⟩=⟨[(99,.d (I 0)),(98,.d (I g.length)),(97,.d (.l (K1 2) (g.map mdv) false))],[]⟩) :
  kC T.env 0 fr H (.h (.loop [97,98,99] qoq,k))=if qkx g=true then k (.exit 3) [(100,.d (.b false)),(99,.d (I g.length)),(98,.d (I g.length)),(97,.d (.l (K1 2) (g.map mdv) false))] []else r:=by
 rw[qbi g (λi _=>⟨[(99,.d (I i)),(98,.d (I g.length)),(97,.d (.l (K1 2) (g.map mdv) false))],[]⟩) (λ_ _=>True) (λi _ x c=>if (λx:Ac=>x.Amount==0) x=true then c ()else r) (λ_=>k (.exit 3) [(100,.d (.b false)),(99,.d (I g.length)),(98,.d (I g.length)),(97,.d (.l (K1 2) (g.map mdv) false))] []) ?_ ?_ h0 trivial]
 ·rw[qht (λx:Ac=>x.Amount==0) r]
  ·rfl
  ·exact λ_ _ _ _=>rfl
 ·intro B _ _ _;simp[qoq]
 ·intro B _ i _ hi _ c hc;have h1:(i:Int)<g.length:=by omega
  have h3:=wr1 (i:=i) (by omega)
  by_cases hz:g[i].Amount=0
  ·simp[qoq,h1,hi,h3,hz,qnI,qey,zzj,bne];exact hc () _ _ trivial (by simp)
  ·have hz':(g[i].Amount==0)=false:=by simpa using hz
   simp[qoq,h1,hi,h3,hz,hz',qnI,qey,zzj,bne];exact hr _ _ (by simp[Fr.get]) (by simp[qan,gh])
def qAp(T:Tab)(g:CF Ac)(hn:g.length<=100){k:KC (PV×CG)}{r:Cz}{fr:Fr}{H:CP}(hr:∀fr H,fr.get 2=.d (I 15)->qan fr=[]->k .ret fr H=r)
  (h0:gc [5,6] 0 ⟨fr,H⟩=⟨[(6,.d (I 0)),(5,.d (.l (K1 2) (g.map mdv) false))],[]⟩) :
  kC T.env 0 fr H (.h (.loop [5,6] qoz,k))=if qkx g=true then k (.exit 2) [(90,.d (.b false)),(6,.d (I g.length)),(5,.d (.l (K1 2) (g.map mdv) false))] []else r:=by
 rw[qbi g (λi _=>⟨[(6,.d (I i)),(5,.d (.l (K1 2) (g.map mdv) false))],[]⟩) (λ_ _=>True) (λi _ x c=>if (λx:Ac=>x.Amount==0) x=true then c ()else r) (λ_=>k (.exit 2) [(90,.d (.b false)),(6,.d (I g.length)),(5,.d (.l (K1 2) (g.map mdv) false))] []) ?_ ?_ h0 trivial]
 ·rw[qht (λx:Ac=>x.Amount==0) r]
  ·rfl
  ·exact λ_ _ _ _=>rfl
 ·intro B _ _ _;simp[qoz]
 ·intro B _ i _ hi _ c hc;have h1:(i:Int)<g.length:=by omega
  have h3:=wr1 (i:=i) (by omega)
  by_cases hz:g[i].Amount=0
  ·simp[qoz,h1,hi,h3,hz,qnI,qey,zzj,bne];exact hc () _ _ trivial (by simp)
  ·have hz':(g[i].Amount==0)=false:=by simpa using hz
   simp[qoz,h1,hi,h3,hz,hz',qnI,qey,zzj,bne];exact hr _ _ (by simp[Fr.get]) (by simp[qan,gh])
def qsX{n:Int}(h:inK .i64 n):w64 n=n:=by
 simp only[inK,Lit.wf,IntKind.min,IntKind.max,IntKind.signed,IntKind.bits,zzf,zzq,if_true]at h;exact wrI (by omega) (by omega)
def qpJ:∀(l g:CF Ac),(l.foldl qaY g).length<=g.length+l.length
 |[],g=>by simp
 |x::l,g=>by
  have:=qpJ l (qaY g x)
  have h2:=qkT g (zM x)
  rw[List.foldl_cons];have h3:(qaY g x).length<=g.length+1:=h2
  simp;omega
def qRe(T:Tab)(hN:HN T)(hP:HP T)(hI:HI2 T)(e:Af)(he:e.ok):T.val 111 [e.dv]=some (.d (I (qcc e)),false):=by
 rw[qab T (hP 111 F111 rfl) rfl];have e1:=qRh T hP e.Key he.2.2.2.2.2.2.1
 have e2:T.val 183 [.s e.Text,.i .u8 32,I 64]=some (.d (.b (qdN e.Text 32 64)),false):=qC5 T hP e.Text 32 64 he.2.2.2.2.2.2.2.1
 have e3:=qvH T hP e.AU
 have e4:=qvH T hP e.Value
 have e5:=qvH T hP e.BL
 unfold qcc;cases hk:qig e.Key with
 |false=>rw[hk]at e1;simp[F111,Fr.Aa,e1]
 |true=>
  rw[hk]at e1;cases ht:qdN e.Text 32 64 with
  |false=>rw[ht]at e2;simp[F111,Fr.Aa,e1,e2,ht,bne]
  |true=>
   rw[ht]at e2;cases hb:qa3 e.AU with
   |false=>rw[hb]at e3;simp[F111,Fr.Aa,e1,e2,ht,e3,hb,bne]
   |true=>
    rw[hb]at e3;cases hv:qa3 e.Value with
    |false=>rw[hv]at e4;simp[F111,Fr.Aa,e1,e2,ht,e3,hb,e4,hv,bne]
    |true=>
     rw[hv]at e4;cases hp:qa3 e.BL with
     |false=>rw[hp]at e5;simp[F111,Fr.Aa,e1,e2,ht,e3,hb,e4,hv,e5,hp,bne]
     |true=>
      rw[hp]at e5;by_cases k1:e.Kind<1
      ·simp[F111,Fr.Aa,e1,e2,ht,e3,hb,e4,hv,e5,hp,k1]
      ·have k1':decide (e.Kind<1)=false:=by simpa using k1
       by_cases k2:14<e.Kind
       ·simp[F111,Fr.Aa,e1,e2,ht,e3,hb,e4,hv,e5,hp,k1,k2]
       ·have k2':decide (14<e.Kind)=false:=by simpa using k2
        by_cases a1:e.Auth<0
        ·simp[F111,Fr.Aa,e1,e2,ht,e3,hb,e4,hv,e5,hp,k1,k2,a1]
        ·have a1':decide (e.Auth<0)=false:=by simpa using a1
         by_cases a2:3<e.Auth
         ·simp[F111,Fr.Aa,e1,e2,ht,e3,hb,e4,hv,e5,hp,k1,k2,a1,a2]
         ·have a2':decide (3<e.Auth)=false:=by simpa using a2
          by_cases n1:e.Ad.l.length<2
          ·have n1':(e.Ad.l.length:Int)<2:=by omega
           simp[F111,Fr.Aa,e1,e2,ht,e3,hb,e4,hv,e5,hp,k1,k2,a1,a2,n1,n1',bne]
          ·have n1':¬(e.Ad.l.length:Int)<2:=by omega
           by_cases n2:12<e.Ad.l.length
           ·have n2':(12:Int)<e.Ad.l.length:=by omega
            simp[F111,Fr.Aa,e1,e2,ht,e3,hb,e4,hv,e5,hp,k1,k2,a1,a2,n1,n1',n2,n2',bne]
           ·have n2':¬(12:Int)<e.Ad.l.length:=by omega
            have e6:=qRj T hN hP hI e.Ad.l e.Ad.t (by omega) (λx hx=>qsX (he.2.2.2.2.2.2.2.2.1.2 x hx).2.1)
            have hl:=qpJ e.Ad.l []
            simp only[List.length_nil]at hl;simp[F111,Fr.Aa,e1,e2,ht,e3,hb,e4,hv,e5,hp,k1,k2,a1,a2,n1,n1',n2,n2',bne];refine (qJN T hP e (by have:=he.2.2.2.2.2.2.2.2.1.1;exact this) he.2.2.2.2.2.2.2.2.1.2 (r:=λn=>some (.d (I n),false)) (λfr H n h hg=>by simp[h,hg,qb4]) (by simp)).trans ?_
            by_cases g1:qb8 e.Ad.l=0
            ·rw[if_pos g1];have lp:=λk fr H r hr h0=>@qJO T (e.Ad.l.foldl qaY []) (by omega) k r fr H hr h0
             simp[e6,g1];rw[lp _ _ _ (some (.d (I 15),false)) (λfr H h hg=>by simp[h,hg,qb4]) (by simp)]
             cases qkx (e.Ad.l.foldl qaY [])with
             |true=>simp
             |false=>simp
            ·rw[if_neg g1];simp[g1]
def qDl(T:Tab)(hP:HP T)(e:Af)(he:e.ok):T.val 679 [e.dv]=some (.d (I (qcc e)),false):=by
 rw[qab T (hP 679 F679 rfl) rfl];have e1:=qR0 T hP e.Key he.2.2.2.2.2.2.1
 have e2:T.val 685 [.s e.Text,I 64,.i .u8 32]=some (.d (.b (qdN e.Text 32 64)),false):=qDm T hP e.Text 32 64 he.2.2.2.2.2.2.2.1
 have e3:=qvO T hP e.AU
 have e4:=qvO T hP e.Value
 have e5:=qvO T hP e.BL
 unfold qcc;cases hk:qig e.Key with
 |false=>rw[hk]at e1;simp[F679,Fr.Aa,e1]
 |true=>
  rw[hk]at e1;cases ht:qdN e.Text 32 64 with
  |false=>rw[ht]at e2;simp[F679,Fr.Aa,e1,e2,ht,bne]
  |true=>
   rw[ht]at e2;cases hb:qa3 e.AU with
   |false=>rw[hb]at e3;simp[F679,Fr.Aa,e1,e2,ht,e3,hb,bne]
   |true=>
    rw[hb]at e3;cases hv:qa3 e.Value with
    |false=>rw[hv]at e4;simp[F679,Fr.Aa,e1,e2,ht,e3,hb,e4,hv,bne]
    |true=>
     rw[hv]at e4;by_cases k1:e.Kind<1
     ·simp[F679,Fr.Aa,e1,e2,ht,e3,hb,e4,hv,k1]
     ·have k1':decide (e.Kind<1)=false:=by simpa using k1
      by_cases k2:14<e.Kind
      ·simp[F679,Fr.Aa,e1,e2,ht,e3,hb,e4,hv,k1,k2]
      ·have k2':decide (14<e.Kind)=false:=by simpa using k2
       by_cases a1:e.Auth<0
       ·simp[F679,Fr.Aa,e1,e2,ht,e3,hb,e4,hv,k1,k2,a1]
       ·have a1':decide (e.Auth<0)=false:=by simpa using a1
        by_cases a2:3<e.Auth
        ·simp[F679,Fr.Aa,e1,e2,ht,e3,hb,e4,hv,k1,k2,a1,a2]
        ·have a2':decide (3<e.Auth)=false:=by simpa using a2
         by_cases hz:e.BL=0
         ·have hp0:qa3 0=true:=rfl
          by_cases n1:e.Ad.l.length<2
          ·have n1':(e.Ad.l.length:Int)<2:=by omega
           simp[F679,Fr.Aa,e1,e2,ht,e3,hb,e4,hv,k1,k2,a1,a2,hz,hp0,n1,n1',bne]
          ·have n1':¬(e.Ad.l.length:Int)<2:=by omega
           by_cases n2:12<e.Ad.l.length
           ·have n2':(12:Int)<e.Ad.l.length:=by omega
            simp[F679,Fr.Aa,e1,e2,ht,e3,hb,e4,hv,k1,k2,a1,a2,hz,hp0,n1,n1',n2,n2',bne]
           ·have n2':¬(12:Int)<e.Ad.l.length:=by omega
            have e6:=qDr T hP e.Ad.l e.Ad.t (by omega) (λx hx=>qsX (he.2.2.2.2.2.2.2.2.1.2 x hx).2.1)
            have hl:=qpJ e.Ad.l []
            simp only[List.length_nil]at hl;simp[F679,Fr.Aa,e1,e2,ht,e3,hb,e4,hv,k1,k2,a1,a2,hz,hp0,n1,n1',n2,n2',bne];refine (qAo T hP e (by have:=he.2.2.2.2.2.2.2.2.1.1;exact this) he.2.2.2.2.2.2.2.2.1.2 (r:=λn=>some (.d (I n),false)) (λfr H n h hg=>by simp[h,hg,qb4]) (by simp)).trans ?_
            by_cases g1:qb8 e.Ad.l=0
            ·rw[if_pos g1];have lp:=λk fr H r hr h0=>@qAp T (e.Ad.l.foldl qaY []) (by omega) k r fr H hr h0
             simp[e6,g1];rw[lp _ _ _ (some (.d (I 15),false)) (λfr H h hg=>by simp[h,hg,qb4]) (by simp)]
             cases qkx (e.Ad.l.foldl qaY [])with
             |true=>simp
             |false=>simp
            ·rw[if_neg g1];simp[g1]
         have hz':(e.BL==0)=false:=by simpa using hz
         cases hp:qa3 e.BL with
         |false=>rw[hp]at e5;simp[F679,Fr.Aa,e1,e2,ht,e3,hb,e4,hv,k1,k2,a1,a2,e5,hz',hp,bne]
         |true=>
          rw[hp]at e5;by_cases n1:e.Ad.l.length<2
          ·have n1':(e.Ad.l.length:Int)<2:=by omega
           simp[F679,Fr.Aa,e1,e2,ht,e3,hb,e4,hv,k1,k2,a1,a2,e5,hz',hp,n1,n1',bne]
          ·have n1':¬(e.Ad.l.length:Int)<2:=by omega
           by_cases n2:12<e.Ad.l.length
           ·have n2':(12:Int)<e.Ad.l.length:=by omega
            simp[F679,Fr.Aa,e1,e2,ht,e3,hb,e4,hv,k1,k2,a1,a2,e5,hz',hp,n1,n1',n2,n2',bne]
           ·have n2':¬(12:Int)<e.Ad.l.length:=by omega
            have e6:=qDr T hP e.Ad.l e.Ad.t (by omega) (λx hx=>qsX (he.2.2.2.2.2.2.2.2.1.2 x hx).2.1)
            have hl:=qpJ e.Ad.l []
            simp only[List.length_nil]at hl;simp[F679,Fr.Aa,e1,e2,ht,e3,hb,e4,hv,k1,k2,a1,a2,e5,hz',hp,n1,n1',n2,n2',bne];refine (qAo T hP e (by have:=he.2.2.2.2.2.2.2.2.1.1;exact this) he.2.2.2.2.2.2.2.2.1.2 (r:=λn=>some (.d (I n),false)) (λfr H n h hg=>by simp[h,hg,qb4]) (by simp)).trans ?_
            by_cases g1:qb8 e.Ad.l=0
            ·rw[if_pos g1];have lp:=λk fr H r hr h0=>@qAp T (e.Ad.l.foldl qaY []) (by omega) k r fr H hr h0
             simp[e6,g1];rw[lp _ _ _ (some (.d (I 15),false)) (λfr H h hg=>by simp[h,hg,qb4]) (by simp)]
             cases qkx (e.Ad.l.foldl qaY [])with
             |true=>simp
             |false=>simp
            ·rw[if_neg g1];simp[g1]
structure HC (T:Tab):Prop where
 ato:∀ds,T.val 451 ds=qmV ds
 par:∀ds,T.val 440 ds=qnQ ds
 cnt:∀ds,T.val 423 ds=qo4 ds
section
variable {R:Type}{E:Env}{ρ:Ab->PV}{H:CP}{id:Nat}{q:PV->CP->CE R}
def qwP{neg:CG}{kd:Nat}{x:Ab}:bo2 (qaa E ρ H id (.BI neg kd x)) (.h q)=bo (qdr kd (ρ x)) (.h λb=>q (.d (.b (if neg=true then !b else b))) H):=by
 simp only[qaa];cases qdr kd (ρ x)<;>rfl
end
section
variable {R:Type}{E:Env}{base:Nat}
def qnG{σ:Type}{live:Cy}{body:PC}{k:KC R}{Q:R->Prop}(st:σ->St)(inv:σ->Prop)(μ:σ->Nat)
  (hround:∀B,B=body->∀s,inv s->(∀s',inv s'->μ s'<μ s->∀fr H,gc live base ⟨fr,H⟩=st s'->Ans Q (kC E base fr H (.h (.loop live B,k))))->Ans Q (kC E base (st s).fr (st s).H (.h (body,lpK E base live B k))))
  (s:σ) (hs:inv s) {fr:Fr} {H:CP} (h0:gc live base ⟨fr,H⟩=st s):Ans Q (kC E base fr H (.h (.loop live body,k))):=by
 have key:∀(n:Nat) (s:σ),μ s<n->inv s->∀fr H,gc live base ⟨fr,H⟩=st s->Ans Q (kC E base fr H (.h (.loop live body,k))):=by
  intro n;induction n with
  |zero=>intro s h;exact absurd h (zzm _)
  |succ n ih=>
   intro s hn hv fr H hg;rw[qgK,hg];exact hround body rfl s hv λs' hv' hm fr' H' hg'=>ih s' (by omega) hv' fr' H' hg'
 exact key (μ s+1) s (Nat.lt_succ_self _) hs fr H h0
end
def qeY(n:Int):CG:=decide (97<=n)&&decide (n<=122)
def qbD(n:Int):CG:=decide (48<=n)&&decide (n<=57)
def qdI(n:Int):CG:=qeY n||(qbD n||decide (n=95))
def qjE(n:Int):CG:=qdI n||(decide (n=46)||decide (n=37))
def qDh(T:Tab)(hT:HT T)(n:Int):T.val 429 [.i .i32 n]=some (.d (.b (qeY n)),false):=by
 rw[qab T (hT 429 qj7 rfl) rfl];unfold qeY;by_cases h:97<=n
 ·simp[qj7,Fr.Aa,h]
 ·simp[qj7,Fr.Aa,h]
def qqU(T:Tab)(hT:HT T)(n:Int):T.val 432 [.i .i32 n]=some (.d (.b (qbD n)),false):=by
 rw[qab T (hT 432 qj8 rfl) rfl];unfold qbD;by_cases h:48<=n
 ·simp[qj8,Fr.Aa,h]
 ·simp[qj8,Fr.Aa,h]
def qDi(T:Tab)(hT:HT T)(n:Int):T.val 430 [.i .i32 n]=some (.d (.b (qdI n)),false):=by
 have e1:=qDh T hT n
 have e2:=qqU T hT n
 rw[qab T (hT 430 qhI rfl) rfl];unfold qdI;generalize qeY n=b1 at *
 generalize qbD n=b2 at *
 cases b1 with
 |true=>simp[qhI,Fr.Aa,e1]
 |false=>
  cases b2 with
  |true=>simp[qhI,Fr.Aa,e1,e2]
  |false=>
   by_cases h:n=95
   ·subst h;simp[qhI,Fr.Aa,e1,e2]
   ·have g:=qad h
    simp[qhI,Fr.Aa,e1,e2,h,g]
def qRM(T:Tab)(hT:HT T)(n:Int):T.val 434 [.i .i32 n]=some (.d (.b (qjE n)),false):=by
 have e1:=qDi T hT n
 rw[qab T (hT 434 qhJ rfl) rfl];unfold qjE;generalize qdI n=b1 at *
 cases b1 with
 |true=>simp[qhJ,Fr.Aa,e1]
 |false=>
  by_cases h:n=46
  ·subst h;simp[qhJ,Fr.Aa,e1]
  ·have g:=qad h
   by_cases h2:n=37
   ·subst h2;simp[qhJ,Fr.Aa,e1]
   ·have g2:=qad h2
    simp[qhJ,Fr.Aa,e1,h,g,h2,g2]
def qRI(T:Tab)(hT:HT T)(n:Int):T.val 426 [.i .i32 n]=some (.d (.b (!decide (n=10))),false):=by
 rw[qab T (hT 426 qj6 rfl) rfl];by_cases h:n=10
 ·simp[qj6,Fr.Aa,h,bne]
 ·have g:=qad h
  simp[qj6,Fr.Aa,h,g,bne]
def cN(c:UInt8):Int:=(c.toNat:Int)
def qJ2(T:Tab)(h:Nat)(p:Int->CG)(hp:∀n,T.val h [.i .i32 n]=some (.d (.b (p n)),false))(s:Cv)(hs:s.length<=maxLen)(H0:CP)(hH:Cl H0){k:KC (PV×CP)}{r:CB}{fr:Fr}{H:CP}
  (he:∀b,k (.exit 0) [(17,.d (.b b)),(5,.d (I (s.takeWhile λc=>p (cN c)).length)),(1,.f h []),(0,.d (.s s))] H0=r)
  (h0:gc [0,1,5] H0.length ⟨fr,H⟩=⟨[(5,.d (I 0)),(1,.f h []),(0,.d (.s s))],H0⟩) :
  kC T.env H0.length fr H (.h (.loop [0,1,5] qow,k))=r:=by
 refine qc7 (λi:Nat=>⟨[(5,.d (I i)),(1,.f h []),(0,.d (.s s))],H0⟩) (λi=>i<=s.length/\(s.takeWhile λc=>p (cN c)).length=i+((s.drop i).takeWhile λc=>p (cN c)).length) (λi=>s.length-i) ?_ 0 ⟨zzK _,by simp⟩ h0
 rintro B-i ⟨hi,ha⟩ hx;have hm:=mxl
 by_cases hlt:i<s.length
 ·have h1:(i:Int)<s.length:=by omega
  have h3:=wr1 (i:=i) (by omega)
  have w32:IntKind.i32.wrap ((s[i].toNat:Nat):Int)=cN s[i]:=by
   rw[IntKind.wrap_i32];have:=s[i].toNat_lt;unfold cN;omega
  have e:=hp (cN s[i])
  rw[zzz hlt,List.takeWhile_cons]at ha;cases hk:p (cN s[i])with
  |true=>
   rw[hk]at e;rw[hk,if_pos rfl,zzn]at ha;have hx':=hx (i+1) ⟨by omega,by omega⟩ (by omega)
   simp[qow,h1,hlt,h3,↓qbl,↓qbe,↓qaS,↓qa7,w32,e];exact hx' _ _ (by rw[qnk _ hH (by simp[qam,Fr.keep,PV.refs,PV.AL,gh])];simp[Fr.keep,gh])
  |false=>
   rw[hk]at e;rw[hk]at ha;simp only[zzg,if_false,List.length_nil,Nat.add_zero]at ha;rw[ha]at he;have he':=he false
   simp[qow,h1,hlt,h3,↓qbl,↓qbe,↓qaS,↓qa7,w32,e];exact he'
 ·have:i=s.length:=by omega
  subst this;rw[zzF (zzt _),List.takeWhile_nil,List.length_nil,Nat.add_zero]at ha;rw[ha]at he;have he':=he false
  have h1:¬((s.length:Int)<s.length):=by omega
  simp[qow];exact he'
def qCY{α:Type}(p:α->CG)(s:CF α):s.take (s.takeWhile p).length=s.takeWhile p:=by
 induction s with
 |nil=>rfl
 |cons x r ih=>
  rw[List.takeWhile_cons];by_cases h:p x=true
  ·rw[if_pos h,zzn,List.take_succ_cons,ih]
  ·rw[if_neg h];rfl
def qqQ{α:Type}(p:α->CG)(s:CF α):(s.takeWhile p).length<=s.length:=by
 have:=congrArg List.length (qCY p s)
 rw[zzI]at this;omega
def qn1(T:Tab)(hT:HT T)(h:Nat)(p:Int->CG)(hp:∀n,T.val h [.i .i32 n]=some (.d (.b (p n)),false))(s:Cv)(hs:s.length<=maxLen)(H0:CP)(hH:Cl H0) :
  T.ref 425 [.d (.s s),.f h []] H0=some (.d (.s (s.takeWhile λc=>p (cN c))),H0):=by
 have lp:=λk r fr H=>@qJ2 T h p hp s hs H0 hH k r fr H
 have hl:=qqQ (λc=>p (cN c)) s
 have ht:=qCY (λc=>p (cN c)) s
 generalize s.takeWhile (λc=>p (cN c))=w at *
 have hl':(w.length:Int)<=s.length:=by omega
 rw[qbW T (hT 425 F425 rfl) rfl];simp[F425,Fr.Aa];refine lp _ _ _ _ (λb=>?_) (by rw[qnk _ hH (by simp[qam,Fr.keep,PV.refs,PV.AL,gh])];simp[Fr.keep,gh])
 simp[hl,hl',ht,qbh,qnj hH]
def qmQ(s:Cv):Prop:=∃(c:UInt8) (r:Cv),s=c::r/\qeY (cN c)=true
def qpY{s:Cv}{i:Nat}(h:qmQ s)(hi:i=0)(hlt:i<s.length):¬((s[i].toNat:Nat):Int)=32/\¬((s[i].toNat:Nat):Int)=9/\¬((s[i].toNat:Nat):Int)=10/\¬((s[i].toNat:Nat):Int)=35:=by
 obtain⟨c,r,rfl,h⟩:=h;subst hi;simp only[qeY,cN,zzf,zzq]at h;have h1:(97:Int)<=((c.toNat:Nat):Int)   :=of_decide_eq_true h.1
 have h2:((c.toNat:Nat):Int)<=122:=of_decide_eq_true h.2
 show ¬((c.toNat:Nat):Int)=32/\¬((c.toNat:Nat):Int)=9/\¬((c.toNat:Nat):Int)=10/\¬((c.toNat:Nat):Int)=35
 omega
def qq8(s:Cv)(r:PV×CG):Prop:=∃n:Nat,r=(.d (I n),false)/\n<=s.length/\(qmQ s->n=0)
def qRF(T:Tab)(hT:HT T)(s:Cv)(hs:s.length<=2048):Ans (qq8 s) (T.val 422 [.s s]):=by
 have hm:=mxl
 rw[qab T (hT 422 F422 rfl) rfl];simp[F422,Fr.Aa];refine qnG (λi:Nat=>⟨[(3,.d (I i)),(0,.d (.s s))],[]⟩) (λi=>i<=s.length/\(qmQ s->i=0)) (λi=>s.length-i) ?_ 0 ⟨zzK _,λ_=>rfl⟩ (by simp)
 rintro B-i ⟨hi,hi0⟩ hx;by_cases hlt:i<s.length
 ·have h1:(i:Int)<s.length:=by omega
  have h1':(i:Int)<=s.length:=by omega
  have hle:i<=s.length:=by omega
  have h3:=wr1 (i:=i) (by omega)
  have e:=qn1 T hT 426 (λn=>!decide (n=10)) (λn=>qRI T hT n) (s.drop i) (by rw[zzJ,hm];omega) [] qq2
  obtain⟨w,hw⟩:∃w,(s.drop i).takeWhile (λc=>!decide (cN c=10))=w:=⟨_,rfl⟩
  have hwl:=qqQ (λc=>!decide (cN c=10)) (s.drop i)
  rw[hw,zzJ]at hwl;simp only[hw]at e;have h5:IntKind.i64.wrap ((i:Int)+(w.length:Int))=((i+w.length:Nat):Int):=by rw[wrI (by omega) (by omega)];omega
  by_cases b1:((s[i].toNat:Nat):Int)=32
  ·have hx':=hx (i+1) ⟨by omega,λh=>absurd b1 (qpY h (hi0 h) hlt).1⟩ (by omega)
   simp[qkp,h1,hlt,h3,↓qbl,↓qbe,b1];exact hx' _ _ (by simp)
  have g1:=qad b1
  by_cases b2:((s[i].toNat:Nat):Int)=9
  ·have hx':=hx (i+1) ⟨by omega,λh=>absurd b2 (qpY h (hi0 h) hlt).2.1⟩ (by omega)
   simp[qkp,h1,hlt,h3,↓qbl,↓qbe,b1,g1,b2];exact hx' _ _ (by simp)
  have g2:=qad b2
  by_cases b3:((s[i].toNat:Nat):Int)=10
  ·have hx':=hx (i+1) ⟨by omega,λh=>absurd b3 (qpY h (hi0 h) hlt).2.2.1⟩ (by omega)
   simp[qkp,h1,hlt,h3,↓qbl,↓qbe,b1,g1,b2,g2,b3];exact hx' _ _ (by simp)
  have g3:=qad b3
  by_cases b4:((s[i].toNat:Nat):Int)=35
  ·have hpos:0<w.length:=by
    rw[zzz hlt,List.takeWhile_cons,if_pos (by unfold cN;rw[b4];decide)]at hw
    rw[<-hw];simp
   have hx':=hx (i+w.length) ⟨by omega,λh=>absurd b4 (qpY h (hi0 h) hlt).2.2.2⟩ (by omega)
   simp[qkp,h1,h1',hlt,hle,h3,↓qbl,↓qbe,b1,g1,b2,g2,b3,g3,b4,e,h5];exact hx' _ _ (by simp)
  have g4:=qad b4
  simp[qkp,h1,hlt,h3,↓qbl,↓qbe,b1,g1,b2,g2,b3,g3,b4,g4];exact qbz (show qq8 s _ from⟨i,rfl,hi,hi0⟩)
 ·have h1:¬((i:Int)<s.length):=by omega
  simp[qkp,h1];exact qbz (show qq8 s _ from⟨i,rfl,hi,hi0⟩)
def qRG(T:Tab)(hT:HT T)(s:Cv)(hs:s.length<=2048):∃n:Nat,n<=s.length/\T.val 422 [.s s]=some (.d (I n),false)/\(qmQ s->n=0):=by
 obtain⟨r,h1,n,h2,h3,h4⟩:=qRF T hT s hs;exact⟨n,h3,by rw[h1,h2],h4⟩
def qjr(s:Cv):CG:=match s with
 |[]=>false
 |c::r=>decide ((c::r).takeWhile (λc=>qbD (cN c))=c::r)&&(decide (r=[]) || !decide (cN c=48))
def qDj(T:Tab)(hT:HT T)(s:Cv)(hs:s.length<=2048):T.val 439 [.s s]=some (.d (.b (qjr s)),false):=by
 have hm:=mxl
 have e:=qn1 T hT 432 qbD (λn=>qqU T hT n) s (by rw[hm];omega) [] qq2
 rw[qab T (hT 439 qfb rfl) rfl];cases s with
 |nil=>simp[qfb,Fr.Aa,qjr]
 |cons c r=>
  have hI:qjr (c::r)=(decide ((c::r).takeWhile (λc=>qbD (cN c))=c::r)&&(decide (r=[]) || !decide (cN c=48))):=rfl
  rw[hI];generalize (c::r).takeWhile (λc=>qbD (cN c))=w at *
  by_cases h1:w=c::r
  ·subst h1;by_cases h2:r=[]
   ·subst h2;simp[qfb,Fr.Aa,e]
   ·have l0:r.length≠0:=λh=>h2 (List.length_eq_zero_iff.1 h)
    have l1:¬((r.length:Int)+1=1):=by omega
    have g1:=qad l1
    unfold cN;by_cases h3:((c.toNat:Nat):Int)=48
    ·simp[qfb,Fr.Aa,e,h2,l0,l1,g1,↓qbl,↓qbe,h3,bne]
    ·have g3:=qad h3
     simp[qfb,Fr.Aa,e,h2,l0,l1,g1,↓qbl,↓qbe,h3,g3,bne]
  ·have g1:=qhu h1
   simp[qfb,Fr.Aa,e,h1,g1]
def qvG{α:Type}{p:α->CG}{x:α}:∀{l:CF α},x∈l.takeWhile p->p x=true
 |[],h=>by cases h
 |y::l,h=>by
  rw[List.takeWhile_cons]at h;by_cases c:p y=true
  ·rw[if_pos c]at h;rcases List.mem_cons.1 h with h|h
   ·rw[h];exact c
   ·exact qvG h
  ·rw[if_neg c]at h;cases h
def qHw{s:Cv}(h:qjr s=true):s≠[]/\∀c∈s,qbD (cN c)=true:=by
 cases s with
 |nil=>cases h
 |cons c r=>
  simp only[qjr,zzf,zzq]at h;refine⟨by simp,λd hd=>?_⟩
  rw[<-h.1]at hd;exact qvG (p:=λc=>qbD (cN c)) hd
def qxD{c:UInt8}(h:qbD (cN c)=true):48<=c.toNat/\c.toNat<=57:=by
 simp only[qbD,zzf,zzq]at h;unfold cN at h;omega
def qxw:∀(l:Cv) (a:Nat),(∀c∈l,qbD (cN c)=true)->∃n,Lib.decFrom a l=some n
 |[],a,_=>⟨a,rfl⟩
 |c::r,a,h=>by
  have hc:=h c (by simp)
  have hc:=qxD hc
  have e:Lib.digitVal c=some (c.toNat-48):=by unfold Lib.digitVal;rw[if_pos (by omega)]
  obtain⟨n,hn⟩:=qxw r (a*10+(c.toNat-48)) (λd hd=>h d (by simp[hd]))
  exact⟨n,by rw[Lib.decFrom,e];exact hn⟩
def qEY{l:Cv}(h0:l≠[])(h:∀c∈l,qbD (cN c)=true):∃v,Lib.atoi l=some v:=by
 cases l with
 |nil=>exact absurd rfl h0
 |cons c r=>
  have hc:=h c (by simp)
  have hc:=qxD hc
  obtain⟨n,hn⟩:=qxw (c::r) 0 h;refine⟨(n:Int),?_⟩;have b1:(c==45)=false:=by
   simp only[beq_eq_false_iff_ne,ne_eq];intro e;rw[e]at hc;revert hc;decide
  have b2:(c==43)=false:=by
   simp only[beq_eq_false_iff_ne,ne_eq];intro e;rw[e]at hc;revert hc;decide
  rw[Lib.atoi,b1,b2];simp only[zzg,if_false,Lib.decNat,List.isEmpty_cons,hn,Option.map_some]
def qzd(c:Nat):∀(l:Cv) (k i:Nat),ixB c l k=some i->k<=i/\i<k+l.length
 |[],k,i,h=>by cases h
 |x::r,k,i,h=>by
  rw[ixB]at h;by_cases e:Nat.beq x.toNat c=true
  ·rw[if_pos e]at h;injection h with h
   subst h;simp
  ·rw[if_neg e]at h
   have:=qzd c r (k+1) i h
   simp only[zzn];omega
def ixI(c:Nat)(s:Cv):Int:=match ixB c s 0 with|some i=>(i:Int)|none=>-1
def qHE(c:Nat)(s:Cv):ixI c s=-1\/∃i:Nat,ixI c s=(i:Int)/\i<s.length:=by
 unfold ixI;cases h:ixB c s 0 with
 |none=>exact .inl rfl
 |some i=>exact .inr ⟨i,rfl,by have:=qzd c s 0 i h;omega⟩
def qRP(T:Tab)(hT:HT T)(s:Cv):T.val 443 [.s s,.i .u8 46]=some (.d (I (ixI 46 s)),false):=by
 have e:qeA 2 [.d (.s s),.d (.i .u8 46)]=some (.d (I (ixI 46 s))):=rfl
 rw[qab T (hT 443 qlN rfl) rfl];simp[qlN,Fr.Aa,↓qmX,e]
def qRN(T:Tab)(hT:HT T)(s:Cv):T.val 436 [.s s,.s [46]]=some (.d (I (ixI 46 s)),false):=by
 have e:=qRP T hT s
 by_cases hs:[46]=s
 ·subst hs;rw[show ixI 46 [46]=0 from rfl,qab T (hT 436 qiI rfl) rfl]
  simp[qiI,Fr.Aa]
 ·have g:=qhu hs
  rw[qab T (hT 436 qiI rfl) rfl];simp[qiI,Fr.Aa,hs,g,↓qbl,↓qbe,e]
def qRV(T:Tab)(hT:HT T)(s:Cv)(hs:s.length<=2048):∃a b f,T.val 461 [.s s,.s [46]]=some (.t [.d (.s a),.d (.s b),.d (.b f)],false)/\(f=false->b=[])/\b.length<=2048/\a.length<=2048:=by
 have e:=qRN T hT s
 rcases qHE 46 s with h|⟨i,h,hi⟩
 ·refine⟨s,[],false,?_,λ_=>rfl,by simp,hs⟩
  rw[h]at e;rw[qab T (hT 461 qiJ rfl) rfl];simp[qiJ,Fr.Aa,e]
 ·refine⟨s.take i,s.drop (i+1),true,?_,(λh=>by cases h),by rw[zzJ];omega,by rw[zzI];omega⟩
  rw[h]at e;have w:IntKind.i64.wrap ((i:Int)+1)=((i+1:Nat):Int):=by rw[wrI (by omega) (by omega)];omega
  have g1:(i:Int)<=s.length:=by omega
  have g2:i<=s.length:=by omega
  have g3:((i+1:Nat):Int)<=s.length:=by omega
  have g4:i+1<=s.length:=by omega
  rw[qab T (hT 461 qiJ rfl) rfl];obtain⟨j,hj⟩:∃j,i+1=j:=⟨_,rfl⟩;rw[hj]at w g3 g4⊢;have g5:(0:Int)<=(j:Int):=by omega
  simp[qiJ,Fr.Aa,e,↓qcp,↓qcq,↓qb7,↓qdH,↓qcN,↓qew,↓qbY,qb9,↓qb1,↓qdj,↓qdV,↓qdW,↓qdh,↓qdi,↓qb0,↓qdB,↓qcd,↓qd1,↓qd0,↓qd7,↓qej,↓qdZ,↓qeh,↓qeg,↓qcm,↓qd3,↓qc2,↓qd4,↓qd6,↓qd5,↓qd8,↓qd2,↓qea,↓qec,↓qef,↓qee,↓qed,↓qd9,↓qeb,↓qei,↓qdX,↓qdY,qbr,AA,AP,qaE,qa8,chg,qbj,runs,qa6,qbg,PV.refs,PV.AL,IOp.okD,IOp.barr,qci,Nat.testBit,w,g1,g2,g3,g4,g5,↓qeL,↓qe7]
def qRT(T:Tab)(hT:HT T)(s:Cv)(hs:s.length<=2048):∃a b f,T.val 450 [.s s,.s [46]]=some (.t [.d (.s a),.d (.s b),.d (.b f)],false)/\(f=false->b=[])/\b.length<=2048/\a.length<=2048:=by
 obtain⟨a,b,f,e,h⟩:=qRV T hT s hs;refine⟨a,b,f,?_,h⟩;rw[qab T (hT 450 qlP rfl) rfl];simp[qlP,Fr.Aa,e]
def qRW(T:Tab)(hT:HT T)(s:Cv)(hs:s.length<=2048):∃b:CG,T.val 468 [.s s,.s [37]]=some (.d (.b b),false)/\(b=true->1<=s.length):=by
 rw[qab T (hT 468 qka rfl) rfl];by_cases h:1<=s.length
 ·have w:IntKind.i64.wrap ((s.length:Int)-1)=((s.length-1:Nat):Int):=by rw[wrI (by omega) (by omega)];omega
  obtain⟨j,hj⟩:∃j,s.length-1=j:=⟨_,rfl⟩;rw[hj]at w;have g1:(j:Int)<=s.length:=by omega
  have g2:j<=s.length:=by omega
  have g3:(1:Int)<=s.length:=by omega
  refine⟨(s.drop j==[37]),?_,λ_=>h⟩
  simp[qka,Fr.Aa,g3,w,g1,g2]
 ·have g3:¬((1:Int)<=s.length):=by omega
  refine⟨false,?_,(λh=>by cases h)⟩
  simp[qka,Fr.Aa,g3]
def qRU(T:Tab)(hT:HT T)(s:Cv)(hs:s.length<=2048):∃a b,T.val 460 [.s s,.s [37]]=some (.t [.d (.s a),.d (.b b)],false)/\a.length<=2048:=by
 obtain⟨b,e,hb⟩:=qRW T hT s hs;rw[qab T (hT 460 qj9 rfl) rfl];cases b with
 |false=>
  refine⟨s,false,?_,hs⟩;simp[qj9,Fr.Aa,e]
 |true=>
  have h:=hb rfl
  have w:IntKind.i64.wrap ((s.length:Int)-1)=((s.length-1:Nat):Int):=by rw[wrI (by omega) (by omega)];omega
  obtain⟨j,hj⟩:∃j,s.length-1=j:=⟨_,rfl⟩;rw[hj]at w;have g1:(j:Int)<=s.length:=by omega
  have g2:j<=s.length:=by omega
  refine⟨s.take j,true,?_,by rw[zzI];omega⟩
  simp[qj9,Fr.Aa,e,w,g1,g2]
def qRR(T:Tab)(hT:HT T)(s:Cv)(hs:s.length<=2048):∃a b,T.val 449 [.s s,.s [37]]=some (.t [.d (.s a),.d (.b b)],false)/\a.length<=2048:=by
 obtain⟨a,b,e,h⟩:=qRU T hT s hs;refine⟨a,b,?_,h⟩;rw[qab T (hT 449 qlO rfl) rfl];simp[qlO,Fr.Aa,e]
def qds(p:Cv):Cv:=p++List.replicate (4-p.length) 48
def qAn(T:Tab)(w p:Cv)(hp:p.length<=4){k:KC (PV×CG)}{r:Cz}{fr:Fr}{H:CP}
  (he:k (.exit 0) [(60,.d (.b false)),(7,.d (.s (qds p))),(6,.d (.s w))] []=r)
  (h0:gc [6,7] 0 ⟨fr,H⟩=⟨[(7,.d (.s p)),(6,.d (.s w))],[]⟩) :
  kC T.env 0 fr H (.h (.loop [6,7] qrh,k))=r:=by
 refine qc7 (λq:Cv=>⟨[(7,.d (.s q)),(6,.d (.s w))],[]⟩) (λq=>q.length<=4/\qds q=qds p) (λq=>4-q.length) ?_ p ⟨hp,rfl⟩ h0
 rintro B-q ⟨hq,ha⟩ hx;by_cases hlt:q.length<4
 ·have h1:(q.length:Int)<4:=by omega
  have hx':=hx (q++[48]) ⟨by simp;omega,by
   rw[<-ha];unfold qds;rw[zzM,zzp,zzn,List.length_nil,show 4-q.length=4-(q.length+(0+1))+1 by omega,List.replicate_succ]
   rfl⟩ (by simp;omega)
  have h2:q.length+1<4611686018427387904:=by omega
  simp[qrh,h1,h2];exact hx' _ _ (by simp)
 ·have h1:¬((q.length:Int)<4):=by omega
  have e:qds p=q:=by
   rw[<-ha];unfold qds
   rw[show 4-q.length=0 by omega];simp
  rw[e]at he;simp[qrh,h1];exact he
def qO6{p:Cv}(h:∀c∈p,qbD (cN c)=true):∀c∈qds p,qbD (cN c)=true:=by
 intro c hc;rcases zzB.1 hc with hc|hc
 ·exact h c hc
 ·rw[(List.mem_replicate.1 hc).2];decide
def qt1{p:Cv}(h:p.length<=4):(qds p).length=4:=by
 unfold qds;rw[zzp,List.length_replicate];omega
def qRO(T:Tab)(hT:HT T)(hC:HC T)(s:Cv)(hs:s.length<=2048):∃p:Int×Int,T.val 441 [.s s]=some (two p):=by
 obtain⟨t,ok,e449,ht⟩:=qRR T hT s hs;obtain⟨a,b,f,e450,hf,hb,ha⟩:=qRT T hT t ht;have e439:=qDj T hT a ha
 have hm:=mxl
 have e425:=qn1 T hT 432 qbD (λn=>qqU T hT n) b (by rw[hm];omega) [] qq2
 rw[qab T (hT 441 F441 rfl) rfl];unfold two;cases ok with
 |false=>
  refine⟨(0,2),?_⟩;simp[F441,Fr.Aa,e449,e450]
 |true=>
  cases hi:qjr a with
  |false=>
   rw[hi]at e439;refine⟨(0,2),?_⟩;simp[F441,Fr.Aa,e449,e450,e439]
  |true=>
   rw[hi]at e439;obtain⟨a0,ad⟩:=qHw hi;have tail:∀(p:Cv),p.length<=4->(∀c∈p,qbD (cN c)=true)->¬(3<a.length)->∃v:Int,T.val 451 [.s (a++qds p)]=some (.t [.d (I v),.d .ni],false):=by
    intro p hp hd h3;obtain⟨v,hv⟩:=qEY (l:=a++qds p) (by simp[a0]) (λc hc=>by
     rcases zzB.1 hc with hc|hc
     ·exact ad c hc
     ·exact qO6 hd c hc)
    refine⟨v,?_⟩;rw[hC.ato];simp only[qmV];rw[if_pos (by rw[zzp,qt1 hp];omega),hv]
   cases f with
   |false=>
    have hbn:=hf rfl
    subst hbn;by_cases h3:3<a.length
    ·have g3:(3:Int)<a.length:=by omega
     refine⟨(0,1),?_⟩;simp[F441,Fr.Aa,e449,e450,e439,g3,h3]
    ·have g3:¬((3:Int)<a.length):=by omega
     obtain⟨v,ev⟩:=tail [] (by simp) (by simp) h3
     have lp:=λk r fr H=>@qAn T a [] (by simp) k r fr H
     have pl:=qt1 (p:=[]) (by simp)
     generalize qds []=q at *
     have hlen:a.length+4<4611686018427387904:=by omega
     by_cases hv:1000000<v
     ·refine⟨(0,1),?_⟩;simp[F441,Fr.Aa,e449,e450,e439,g3,h3];refine lp _ _ _ _ ?_ (by simp)
      simp[pl,hlen,ev,hv]
     ·refine⟨(v,0),?_⟩;simp[F441,Fr.Aa,e449,e450,e439,g3,h3];refine lp _ _ _ _ ?_ (by simp)
      simp[pl,hlen,ev,hv]
   |true=>
    by_cases b0:b=[]
    ·refine⟨(0,2),?_⟩;simp[F441,Fr.Aa,e449,e450,e439,b0]
    have gb0:=qhu b0
    by_cases b4:4<b.length
    ·have g4:(4:Int)<b.length:=by omega
     refine⟨(0,2),?_⟩;simp[F441,Fr.Aa,e449,e450,e439,b0,gb0,b4,g4]
    have g4:¬((4:Int)<b.length):=by omega
    by_cases bd:b.takeWhile (λc=>qbD (cN c))=b
    ·rw[bd]at e425;have hbd:∀c∈b,qbD (cN c)=true:=λc hc=>by
      rw[<-bd]at hc;exact qvG (p:=λc=>qbD (cN c)) hc
     have l0:b.length≠0:=λh=>b0 (List.length_eq_zero_iff.1 h)
     have w:IntKind.i64.wrap ((b.length:Int)-1)=((b.length-1:Nat):Int):=by rw[wrI (by omega) (by omega)];omega
     obtain⟨j,hj⟩:∃j,b.length-1=j:=⟨_,rfl⟩;rw[hj]at w;have hjl:j<b.length:=by omega
     obtain⟨c,hc⟩:∃c,b[j]? = some c:=⟨_,zze hjl⟩;by_cases bc:((c.toNat:Nat):Int)=48
     ·refine⟨(0,2),?_⟩;simp[F441,Fr.Aa,e449,e450,e439,b0,gb0,b4,g4,e425,bne,w,hc,↓qbl,↓qbe,bc]
     ·have gbc:=qad bc
      by_cases h3:3<a.length
      ·have g3:(3:Int)<a.length:=by omega
       refine⟨(0,1),?_⟩;simp[F441,Fr.Aa,e449,e450,e439,b0,gb0,b4,g4,e425,bne,w,hc,↓qbl,↓qbe,bc,gbc,g3,h3]
      ·have g3:¬((3:Int)<a.length):=by omega
       obtain⟨v,ev⟩:=tail b (by omega) hbd h3
       have lp:=λk r fr H=>@qAn T a b (by omega) k r fr H
       have pl:=qt1 (p:=b) (by omega)
       generalize qds b=q at *
       have hlen:a.length+4<4611686018427387904:=by omega
       by_cases hv:1000000<v
       ·refine⟨(0,1),?_⟩;simp[F441,Fr.Aa,e449,e450,e439,b0,gb0,b4,g4,e425,bne,w,hc,↓qbl,↓qbe,bc,gbc,g3,h3];refine lp _ _ _ _ ?_ (by simp)
        simp[pl,hlen,ev,hv]
       ·refine⟨(v,0),?_⟩;simp[F441,Fr.Aa,e449,e450,e439,b0,gb0,b4,g4,e425,bne,w,hc,↓qbl,↓qbe,bc,gbc,g3,h3];refine lp _ _ _ _ ?_ (by simp)
        simp[pl,hlen,ev,hv]
    ·have gbd:=qhu bd
     generalize b.takeWhile (λc=>qbD (cN c))=w at *
     refine⟨(0,2),?_⟩;simp[F441,Fr.Aa,e449,e450,e439,b0,gb0,b4,g4,e425,bd,gbd,bne]
structure Ba where
 (Kind Line:Int)
 Text:List UInt8
def Ba.cells(x:Ba):Ct:=[I x.Kind,I x.Line,.s x.Text]
def Ba.dv(x:Ba):DV:=.a [I x.Kind,I x.Line,.s x.Text]
@[simp] def Ba.fits(x:Ba):Sim.fits (K1 3) (.d (Ba.dv x))=true:=rfl
@[simp] def Ba.AJ(x:Ba)(H:CP):Sim.AJ H (.d (Ba.dv x))=some (.d (Ba.dv x),false):=rfl
@[simp] def Ba.clen(x:Ba):(Ba.dv x).cells.length=3:=rfl
@[simp] def Ba.aof(x:Ba):DV.a (Ba.cells x)=Ba.dv x:=rfl
@[simp] def Ba.ccl(x:Ba):(Ba.cells x).length=3:=rfl
@[simp] def Ba.c0(x:Ba):(Ba.dv x).cells[0]? = some (I x.Kind):=rfl
@[simp] def Ba.c1(x:Ba):(Ba.dv x).cells[1]? = some (I x.Line):=rfl
@[simp] def Ba.c2(x:Ba):(Ba.dv x).cells[2]? = some (.s x.Text):=rfl
def qhB(k:Int)(s:Cv)(e:Int):PV×CG:=(.t [.d (.a [I k,I 0,.s s]),.d (I e)],false)
def qO7(T:Tab)(hC:HC T)(s:Cv)(hs:s.length<=2048):(∃v:Int,T.val 440 [.s s,I 10,I 64]=some (.t [.d (I v),.d .ni],false))\/(∃v:Int,T.val 440 [.s s,I 10,I 64]=some (.t [.d (I v),.d (.tok 0)],false)):=by
 rw[hC.par];simp only[qnQ];rw[if_pos (by refine⟨?_,?_,?_⟩<;>first|trivial|omega)]
 cases Lib.parseIntB 64 s with
 |ok v=>exact .inl ⟨v,rfl⟩
 |range=>exact .inr ⟨_,rfl⟩
 |_=>exact .inr ⟨_,rfl⟩
def qRL(T:Tab)(hT:HT T)(hC:HC T)(s:Cv)(hs:s.length<=2048):∃k t e,T.val 433 [.s s]=some (qhB k t e)/\(e=0->t=s)/\k≠1:=by
 have e439:=qDj T hT s hs
 obtain⟨p,e441⟩:=qRO T hT hC s hs;unfold two at e441;cases hi:qjr s with
 |true=>
  rw[hi]at e439;rcases qO7 T hC s hs with ⟨v,e⟩|⟨v,e⟩
  ·refine⟨2,s,0,?_,λ_=>rfl,by decide⟩
   rw[qab T (hT 433 qdd rfl) rfl];simp[qdd,Fr.Aa,e439,e,↓qwP,qdr,↓qay,↓qaC,↓qaB,putAt,mkA,qaf,qau,qaQ,qaw,qbZ,qhB]
  ·refine⟨0,[],6,?_,(λh=>by cases h),by decide⟩
   rw[qab T (hT 433 qdd rfl) rfl];simp[qdd,Fr.Aa,e439,e,↓qwP,qdr,↓qay,↓qaC,↓qaB,putAt,mkA,qaf,qau,qaQ,qaw,qbZ,qhB]
 |false=>
  rw[hi]at e439;by_cases h0:p.2=0
  ·refine⟨3,s,0,?_,λ_=>rfl,by decide⟩
   rw[qab T (hT 433 qdd rfl) rfl];simp[qdd,Fr.Aa,e439,e441,h0,↓qay,↓qaC,↓qaB,putAt,mkA,qaf,qau,qaQ,qaw,qbZ,qhB]
  ·have g0:=qad h0
   by_cases h1:p.2=1
   ·refine⟨0,[],6,?_,(λh=>by cases h),by decide⟩
    rw[qab T (hT 433 qdd rfl) rfl];simp[qdd,Fr.Aa,e439,e441,h1,↓qay,↓qaC,↓qaB,putAt,mkA,qaf,qau,qaQ,qaw,qbZ,qhB]
   ·have g1:=qad h1
    refine⟨0,[],2,?_,(λh=>by cases h),by decide⟩
    rw[qab T (hT 433 qdd rfl) rfl];simp[qdd,Fr.Aa,e439,e441,h0,g0,h1,g1,↓qay,↓qaC,↓qaB,putAt,mkA,qaf,qau,qaQ,qaw,qbZ,qhB]
def wordsL:CF (Cv):=[[112,114,111,100,117,99,116],[99,117,114,114,101,110,99,121],[99,97,108,101,110,100,97,114],[102,114,111,109],[101,118,101,114,121],[111,118,101,114,100,114,97,102,116],[116,97,120],[99,114,101,100,105,116],[100,101,98,105,116],[109,97,114,103,105,110,97,108],[119,104,111,108,101],[97,99,116,51,54,48],[97,99,116,51,54,53],[97,99,116,117,97,108],[116,104,105,114,116,121],[100,111,119,110],[117,112],[102,108,111,111,114],[99,101,105,108],[104,97,108,102,95,117,112],[104,97,108,102,95,101,118,101,110],[107,101,101,112],[100,114,111,112],[102,101,101],[108,105,109,105,116],[119,104,101,110],[97,109,111,117,110,116,95,111,102],[115,105,110,103,108,101],[100,97,105,108,121],[109,111,110,116,104,108,121],[109,111,110,116,104],[114,101,116,117,114,110],[99,108,111,115,101],[101,118,101,110,116],[105,102],[116,104,101,110],[101,108,115,101],[97,110,100],[111,114],[110,111,116],[109,105,110],[109,97,120]]
structure HWd (T:Tab):Prop where
 words:∃(t o:Bool),T.val 438 []=some (.d (.l K0 (wordsL.map DV.s) t),o)
 marks:∃(ms:List (List UInt8)) (t o:Bool),T.val 435 []=some (.d (.l K0 (ms.map DV.s) t),o)/\ms.length<=1000/\∀m∈ms,m≠[]
def qq9(ws:CF (Cv))(s:Cv)(r:PV×CG):Prop:=∃n:Int,r=(.d (I n),false)/\(0<=n↔s∈ws)
def qRQ(T:Tab)(hT:HT T)(ws:CF (Cv))(t:CG)(s:Cv)(hn:ws.length<=1000):Ans (qq9 ws s) (T.val 446 [.l K0 (ws.map DV.s) t,.s s]):=by
 rw[qab T (hT 446 F446 rfl) rfl];simp[F446,Fr.Aa];refine qnG (λi:Nat=>⟨[(8,.d (I i)),(7,.d (I ws.length)),(1,.d (.s s)),(0,.d (.l K0 (ws.map DV.s) t))],[]⟩) (λi=>i<=ws.length/\¬s∈ws.take i) (λi=>ws.length-i) ?_ 0 ⟨zzK _,by simp⟩ (by simp)
 rintro B-i ⟨hi,hni⟩ hx;by_cases hlt:i<ws.length
 ·have h1:(i:Int)<ws.length:=by omega
  have h3:=wr1 (i:=i) (by omega)
  by_cases hs:s=ws[i]
  ·have hm:s∈ws:=by rw[hs];exact zzs hlt
   simp[qri,h1,hlt,h3,<-hs,zzj];exact qbz (show qq9 ws s _ from⟨_,rfl,⟨λ_=>hm,λ_=>by omega⟩⟩)
  ·have g:=qhu hs
   have hx':=hx (i+1) ⟨by omega,by
    rw[zzw hlt,zzB,zzH];exact λh=>h.elim hni hs⟩ (by omega)
   simp[qri,h1,hlt,h3,hs,g,zzj];exact hx' _ _ (by simp)
 ·have:i=ws.length:=by omega
  subst this;rw[List.take_length]at hni;have h1:¬((ws.length:Int)<ws.length):=by omega
  simp[qri];exact qbz (show qq9 ws s _ from⟨_,rfl,⟨λh=>absurd h (by decide),λh=>absurd h hni⟩⟩)
def qRK(T:Tab)(hT:HT T)(hW:HWd T)(s:Cv):T.val 431 [.s s]=some (.d (.b (decide (s∈wordsL))),false):=by
 obtain⟨t,o,e438⟩:=hW.words;obtain⟨r,e446,n,rfl,hn⟩:=qRQ T hT wordsL t s (by decide)
 have e437:T.val 437 [.l K0 (wordsL.map DV.s) t,.s s]=some (.d (.b (decide (s∈wordsL))),false):=by
  have q:decide (s∈wordsL)=decide (0<=n):=by rw[decide_eq_decide];exact hn.symm
  rw[q,qab T (hT 437 qlM rfl) rfl];simp[qlM,Fr.Aa,e446]
 generalize wordsL.map DV.s=w at *
 generalize decide (s∈wordsL)=b at *
 rw[qab T (hT 431 qlL rfl) rfl];simp[qlL,Fr.Aa,e438,e437]
def qRm(T:Tab)(hT:HT T)(s m:Cv):∃b:CG,T.val 291 [.s s,.s m]=some (.d (.b b),false)/\(b=true->m.length<=s.length):=by
 rw[qab T (hT 291 qj3 rfl) rfl];by_cases h:m.length<=s.length
 ·have g:(m.length:Int)<=s.length:=by omega
  refine⟨(s.take m.length==m),?_,λ_=>h⟩
  simp[qj3,Fr.Aa,g,h]
 ·have g:¬((m.length:Int)<=s.length):=by omega
  refine⟨false,?_,(λh=>by cases h)⟩
  simp[qj3,Fr.Aa,g,h]
def qRk(T:Tab)(hT:HT T)(s m:Cv):∃b:CG,T.val 207 [.s s,.s m]=some (.d (.b b),false)/\(b=true->m.length<=s.length):=by
 obtain⟨b,e,h⟩:=qRm T hT s m;refine⟨b,?_,h⟩;rw[qab T (hT 207 qlz rfl) rfl];simp[qlz,Fr.Aa,e]
def qcg:Cv->CG
 |[]=>false
 |c::r=>qeY (cN c)&&(decide ((c::r).takeWhile (λc=>qdI (cN c))=c::r)&&(!decide (c::r∈wordsL)&&decide ((c::r).length<=16)))
def qiN(s:Cv)(r:PV×CG):Prop:=∃k t e,r=qhB k t e/\(e=0->t≠[]/\t.length<=s.length)/\(qcg s=true->k=1/\t=s/\e=0)/\(e=0->k=1->t=s->qcg s=true)
def qDJ(k:K)(v:DV):Cl [some (.box k (.d v))]:=λr h=>by simp[qae,qav,Obj.refs,PV.refs]at h
def qRH(T:Tab)(hT:HT T)(hC:HC T)(hW:HWd T)(s:Cv)(h0:s≠[])(hs:s.length<=2048):Ans (qiN s) (T.val 424 [.s s]):=by
 have hm:=mxl
 obtain⟨c,r,rfl⟩:∃c r,s=c::r:=by
  cases s with
  |nil=>exact absurd rfl h0
  |cons c r=>exact⟨c,r,rfl⟩
 have w32:IntKind.i32.wrap ((c.toNat:Nat):Int)=cN c:=by
  rw[IntKind.wrap_i32];have:=c.toNat_lt;unfold cN;omega
 have e429:=qDh T hT (cN c)
 have e432:=qqU T hT (cN c)
 have z:Cl [some (.box (K1 3) (.d (.a [I 0,I 0,.s []])))]:=qDJ _ _
 cases hl:qeY (cN c)with
 |true=>
  rw[hl]at e429;have e425:=qn1 T hT 430 qdI (λn=>qDi T hT n) (c::r) (by rw[hm];omega) _ z
  have hne:(c::r).takeWhile (λc=>qdI (cN c))≠[]:=by
   rw[List.takeWhile_cons,if_pos (by unfold qdI;rw[hl];rfl)];simp
  have hle:=qqQ (λc=>qdI (cN c)) (c::r)
  have hN:qcg (c::r)=(decide ((c::r).takeWhile (λc=>qdI (cN c))=c::r)&&(!decide (c::r∈wordsL)&&decide ((c::r).length<=16))):=by
   show (qeY (cN c)&&_)=_
   rw[hl,Bool.true_and]
  generalize (c::r).takeWhile (λc=>qdI (cN c))=w at *
  have e431:=qRK T hT hW w
  cases hb:decide (w∈wordsL)with
  |true=>
   rw[hb]at e431;rw[qab T (hT 424 F424 rfl) rfl];simp[F424,Fr.Aa,↓qbl,↓qbe,↓qaS,↓qa7,w32,e429,e425,e431,↓qay,↓qaC,↓qaB,putAt,mkA,qaf,qau,qaQ,qaw,qbZ];exact qbz (show qiN _ _ from⟨5,w,0,rfl,λ_=>⟨hne,hle⟩,(λh=>by
    exfalso
    rw[hN]at h;simp only[zzf,zzq,Bool.not_eq_true',zzE]at h hb;exact h.2.1 (h.1▸hb)),λ_ h=>absurd h (by decide)⟩)
  |false=>
   rw[hb]at e431;by_cases hw:16<w.length
   ·have g:(16:Int)<w.length:=by omega
    rw[qab T (hT 424 F424 rfl) rfl];simp[F424,Fr.Aa,↓qbl,↓qbe,↓qaS,↓qa7,w32,e429,e425,e431,hw,g,↓qay,↓qaC,↓qaB,putAt,mkA,qaf,qau,qaQ,qaw,qbZ];exact qbz (show qiN _ _ from⟨0,[],4,rfl,(λh=>by cases h),(λh=>by
     exfalso
     rw[hN]at h;simp only[zzf,zzq,Bool.not_eq_true',zzE]at h;rw[h.1]at hw;omega),λh=>by cases h⟩)
   ·have g:¬((16:Int)<w.length):=by omega
    rw[qab T (hT 424 F424 rfl) rfl];simp[F424,Fr.Aa,↓qbl,↓qbe,↓qaS,↓qa7,w32,e429,e425,e431,hw,g,↓qay,↓qaC,↓qaB,putAt,mkA,qaf,qau,qaQ,qaw,qbZ];exact qbz (show qiN _ _ from⟨1,w,0,rfl,λ_=>⟨hne,hle⟩,(λh=>by
     rw[hN]at h;simp only[zzf,zzq,Bool.not_eq_true',zzE]at h;exact⟨rfl,h.1,rfl⟩),λ_ _ h=>by
     rw[hN];simp only[zzf,zzq,Bool.not_eq_true',zzE]at hb⊢;refine⟨h,h▸hb,?_⟩;rw[<-h];omega⟩)
 |false=>
  have hN:qcg (c::r)=false:=by
   show (qeY (cN c)&&_)=_
   rw[hl,Bool.false_and]
  have hN1:∀{p:Prop},qcg (c::r)=true->p:=λh=>by rw[hN]at h;cases h
  rw[hl]at e429;cases hd:qbD (cN c)with
  |true=>
   rw[hd]at e432;have e425:=qn1 T hT 434 qjE (λn=>qRM T hT n) (c::r) (by rw[hm];omega) _ z
   have hne:(c::r).takeWhile (λc=>qjE (cN c))≠[]:=by
    rw[List.takeWhile_cons,if_pos (by unfold qjE qdI;rw[hl,hd];rfl)];simp
   have hle:=qqQ (λc=>qjE (cN c)) (c::r)
   generalize (c::r).takeWhile (λc=>qjE (cN c))=w at *
   obtain⟨k,t,e,e433,ht,hk1⟩:=qRL T hT hC w (by omega)
   unfold qhB at e433;rw[qab T (hT 424 F424 rfl) rfl];simp[F424,Fr.Aa,↓qbl,↓qbe,↓qaS,↓qa7,w32,e429,e432,e425,e433];exact qbz (show qiN _ _ from⟨k,t,e,rfl,(λh=>by rw[ht h];exact⟨hne,hle⟩),hN1,λ_ h=>absurd h hk1⟩)
  |false=>
   rw[hd]at e432;obtain⟨ms,t,o,e435,hn,hms⟩:=hW.marks;rw[qab T (hT 424 F424 rfl) rfl];simp[F424,Fr.Aa,↓qbl,↓qbe,↓qaS,↓qa7,w32,e429,e432,e435];refine qnG (λi:Nat=>⟨[(36,.d (I i)),(35,.d (I ms.length)),(34,.d (.l K0 (ms.map DV.s) t)),(2,.p 0 0 0),(0,.d (.s (c::r)))],[some (.box (K1 3) (.d (.a [I 0,I 0,.s []])))]⟩) (λi=>i<=ms.length) (λi=>ms.length-i) ?_ 0 (zzK _) (by simp)
   rintro B-i hi hx;by_cases hlt:i<ms.length
   ·have h1:(i:Int)<ms.length:=by omega
    have h3:=wr1 (i:=i) (by omega)
    obtain⟨b,e207,hb⟩:=qRk T hT (c::r) ms[i];cases b with
    |true=>
     simp[qrg,h1,hlt,h3,e207,zzj,↓qay,↓qaC,↓qaB,putAt,mkA,qaf,qau,qaQ,qaw,qbZ];exact qbz (show qiN _ _ from⟨4,ms[i],0,rfl,(λ_=>⟨hms _ (zzs hlt),hb rfl⟩),hN1,λ_ h=>absurd h (by decide)⟩)
    |false=>
     have hx':=hx (i+1) (by omega) (by omega)
     simp[qrg,h1,hlt,h3,e207,zzj];exact hx' _ _ (by simp)
   ·have:i=ms.length:=by omega
    subst this;have h1:¬((ms.length:Int)<ms.length):=by omega
    simp[qrg,↓qay,↓qaC,↓qaB,putAt,mkA,qaf,qau,qaQ,qaw,qbZ];exact qbz (show qiN _ _ from⟨0,[],2,rfl,(λh=>by cases h),hN1,λh=>by cases h⟩)
