/- Part 22 of the proof. -/
import Derived.Test.YtmaaepdecdhmnaaGreatDoorHB21
set_option linter.all false
namespace Go.Sim
set_option maxRecDepth 100000
set_option maxHeartbeats 8000000
def Wd(z:Int):Bf:=⟨z/18446744073709551616,z%18446744073709551616⟩
def qeD(z:Int):∃a,Wd z=a/\a.Hi=z/18446744073709551616/\a.Lo=z%18446744073709551616:=⟨_,rfl,rfl,rfl⟩
def wd0{A B z:Int}(h1:A=z/18446744073709551616)(h2:B=z%18446744073709551616):DV.a [I A,.i .u64 B]=(Wd z).dv:=by subst h1;subst h2;rfl
structure ASz where
 h:Int
 l:Int
def ASz.cells(x:ASz):Ct:=[.i .u64 x.h,.i .u64 x.l]
def ASz.dv(x:ASz):DV:=.a [.i .u64 x.h,.i .u64 x.l]
@[simp] def ASz.fits(x:ASz):Sim.fits (K1 2) (.d (ASz.dv x))=true:=rfl
@[simp] def ASz.AJ(x:ASz)(H:CP):Sim.AJ H (.d (ASz.dv x))=some (.d (ASz.dv x),false):=rfl
@[simp] def ASz.clen(x:ASz):(ASz.dv x).cells.length=2:=rfl
@[simp] def ASz.aof(x:ASz):DV.a (ASz.cells x)=ASz.dv x:=rfl
@[simp] def ASz.ccl(x:ASz):(ASz.cells x).length=2:=rfl
@[simp] def ASz.c0(x:ASz):(ASz.dv x).cells[0]? = some (.i .u64 x.h):=rfl
@[simp] def ASz.c1(x:ASz):(ASz.dv x).cells[1]? = some (.i .u64 x.l):=rfl
def Sz(z:Int):ASz:=⟨z/18446744073709551616,z%18446744073709551616⟩
def qoc(z:Int):∃a,Sz z=a/\a.h=z/18446744073709551616/\a.l=z%18446744073709551616:=⟨_,rfl,rfl,rfl⟩
def sz0{A B z:Int}(h1:A=z/18446744073709551616)(h2:B=z%18446744073709551616):DV.a [.i .u64 A,.i .u64 B]=(Sz z).dv:=by subst h1;subst h2;rfl
def wU(n:Int):IntKind.u64.wrap n=n%18446744073709551616:=IntKind.wrap_u64 n
def wI(n:Int):IntKind.i64.wrap n=(n+9223372036854775808)%18446744073709551616-9223372036854775808:=IntKind.wrap_i64 n
def aI(n:Int):Int:=if n<0 then -n else n
def qhV{n:Int}(h:n<0):aI n=-n:=if_pos h
def qoO{n:Int}(h:¬n<0):aI n=n:=if_neg h
def ngW(z:Int):Int:=if z=-170141183460469231731687303715884105728 then z else -z
def qaP{α R:Type}{x:CE α}{v:α}{d:α->CE R}(h:x=some v):bo x (.h d)=d v:=by rw[h];rfl
def qnN(a b:Int):qaI .mul (.d (.i .u64 a)) (.d (.i .u64 b))=some (.i .u64 (a*b%18446744073709551616)):=by
 rw[<-wU];rfl
def qoP(a b:Int):qaI .add (.d (.i .u64 a)) (.d (.i .u64 b))=some (.i .u64 ((a+b)%18446744073709551616)):=by
 rw[<-wU];rfl
def qQN(a b:Int):qaI .sub (.d (.i .u64 a)) (.d (.i .u64 b))=some (.i .u64 ((a-b)%18446744073709551616)):=by
 rw[<-wU];rfl
def qmS(a:Int)(h0:0<=a)(h1:a<18446744073709551616):qaI .and (.d (.i .u64 a)) (.d (.i .u64 4294967295))=some (.i .u64 (a%4294967296)):=by
 rw[<-Go.and_low32 a h0 h1];rfl
def qvm(a:Int)(s:Nat)(h:s<=64):qaI .shl (.d (.i .u64 a)) (.d (.i .u64 (s:Int)))=some (.i .u64 (a*2^s%18446744073709551616)):=by
 rw[<-wU];show (if (s:Int)<0 then none else some (DV.i .u64 (IntKind.u64.wrap (a*2^min (Int.toNat (s:Int)) 64))))=_
 rw[if_neg (by omega),Int.toNat_natCast,Nat.min_eq_left h]
def qoa(a:Int)(s:Nat)(h:s<=64):qaI .shr (.d (.i .u64 a)) (.d (.i .u64 (s:Int)))=some (.i .u64 (a/2^s)):=by
 show (if (s:Int)<0 then none else some (DV.i .u64 (a.fdiv (2^min (Int.toNat (s:Int)) 64))))=_
 rw[if_neg (by omega),Int.toNat_natCast,Nat.min_eq_left h,Int.fdiv_eq_ediv_of_nonneg _ (Int.le_of_lt (Int.pow_pos (by decide)))]
def qiv(a:Int):qaI .shr (.d (.i .u64 a)) (.d (.i .u64 32))=some (.i .u64 (a/4294967296)):=qoa a 32 (by omega)
def qS6{n:Int}(h0:0<=n)(h1:n<18446744073709551616):unA .xor (.d (.i .u64 n))=some (.i .u64 (18446744073709551615-n)):=by
 obtain⟨m,rfl⟩:=Int.eq_ofNat_of_zero_le h0;show some (DV.i .u64 (IntKind.u64.wrap (BitVec.ofInt 64 18446744073709551615 ^^^ BitVec.ofInt 64 (m:Int)).toNat))=_
 have e:BitVec.ofInt 64 18446744073709551615=BitVec.allOnes 64:=by decide
 rw[e,BitVec.allOnes_xor,BitVec.toNat_not,BitVec.ofInt_natCast,BitVec.toNat_ofNat,wU];congr 2
 omega
def qS5{n:Int}(h0 : -9223372036854775808<=n)(h1:n<9223372036854775808):unA .xor (.d (I n))=some (I (-1-n)):=by
 show some (DV.i .i64 (IntKind.i64.wrap (BitVec.ofInt 64 (-1) ^^^ BitVec.ofInt 64 n).toNat))=_
 have e:BitVec.ofInt 64 (-1)=BitVec.allOnes 64:=by decide
 rw[e,BitVec.allOnes_xor,BitVec.toNat_not,BitVec.toNat_ofInt,wI];refine congrArg (λz=>some (DV.i .i64 z)) ?_
 omega
def qqa{a b c d:Int}(h1:a<=c)(h2:b<=d)(h3:0<=b)(h4:0<=c):a*b<=c*d:=Int.le_trans (Int.mul_le_mul_of_nonneg_right h1 h3) (Int.mul_le_mul_of_nonneg_left h2 h4)
structure Dig (v u x q r:Int):Prop where
 v0:9223372036854775808<=v
 v1:v<18446744073709551616
 u0:0<=u
 u1:u<v
 x0:0<=x
 x1:x<4294967296
 e:q*(v/4294967296)+r=u
 r0:0<=r
 q0:(u*4294967296+x)/v<=q
 q1:q<=4294967297
def qel{v u x:Int}(h0:9223372036854775808<=v)(u0:0<=u)(u1:u<v)(x0:0<=x)(x1:x<4294967296):0<=(u*4294967296+x)/v/\(u*4294967296+x)/v<4294967296/\(u*4294967296+x)/v*v<=u*4294967296+x/\u*4294967296+x<(u*4294967296+x)/v*v+v:=by
 have hv:0<v:=by omega
 refine⟨Int.ediv_nonneg (by omega) (by omega),?_,?_,?_⟩
 ·apply Int.ediv_lt_of_lt_mul hv;omega
 ·exact Int.ediv_mul_le _ (by omega)
 ·exact Int.lt_ediv_add_one_mul_self _ hv |> λh=>by rw[Int.add_mul,Int.one_mul]at h;exact h
def qF3{v u x:Int}(h0:9223372036854775808<=v)(h1:v<18446744073709551616)(u0:0<=u)(u1:u<v)(x0:0<=x)(x1:x<4294967296):Dig v u x (u/(v/4294967296)) (u-u/(v/4294967296)*(v/4294967296))/\u-u/(v/4294967296)*(v/4294967296)<4294967296:=by
 obtain⟨n1,n2,n3,n4⟩:=qel h0 u0 u1 x0 x1;obtain⟨w,hw⟩:∃w,w=v/4294967296:=⟨_,rfl⟩;have w0:2147483648<=w:=by omega
 have w1:w<4294967296:=by omega
 have a1:u/w*w<=u:=Int.ediv_mul_le _ (by omega)
 have a2:u<u/w*w+w:=by
  have h:=Int.lt_ediv_add_one_mul_self u (b:=w) (by omega)
  rw[Int.add_mul,Int.one_mul]at h;exact h
 rw[<-hw];refine⟨⟨h0,h1,u0,u1,x0,x1,by rw[<-hw];omega,by omega,?_,?_⟩,by omega⟩
 ·apply Int.le_ediv_of_mul_le (by omega)
  generalize (u*4294967296+x)/v=Q at *
  have b1:Q*(w*4294967296)<=Q*v:=Int.mul_le_mul_of_nonneg_left (by omega) n1
  rw[<-Int.mul_assoc]at b1;omega
 ·have:u/w<4294967298:=by
   apply Int.ediv_lt_of_lt_mul (by omega)
   omega
  omega
def qxB{v u x q r:Int}(h:Dig v u x q r)(hc:4294967296<=q\/4294967296*r+x<q*(v%4294967296)):Dig v u x (q-1) (r+v/4294967296):=by
 obtain⟨v0,v1,u0,u1,x0,x1,e,r0,q0,q1⟩:=h;obtain⟨n1,n2,n3,n4⟩:=qel v0 u0 u1 x0 x1;refine⟨v0,v1,u0,u1,x0,x1,by rw[Int.sub_mul,Int.one_mul];omega,by omega,?_,by omega⟩
 generalize (u*4294967296+x)/v=Q at *
 rcases hc with hc|hc
 ·omega
 ·have hne:Q≠q:=by
   intro hq;subst hq;have ev:Q*v=Q*(v/4294967296)*4294967296+Q*(v%4294967296):=by
    have:v=v/4294967296*4294967296+v%4294967296:=by omega
    conv=>lhs;rw[this]
    rw[Int.mul_add,Int.mul_assoc]
   omega
  omega
def qsk{v u x q r:Int}(h:Dig v u x q r)(hc:q*(v%4294967296)<=4294967296*r+x):q=(u*4294967296+x)/v:=by
 obtain⟨v0,v1,u0,u1,x0,x1,e,r0,q0,q1⟩:=h;refine Int.le_antisymm ?_ q0;apply Int.le_ediv_of_mul_le (by omega)
 have ev:q*v=q*(v/4294967296)*4294967296+q*(v%4294967296):=by
  have:v=v/4294967296*4294967296+v%4294967296:=by omega
  conv=>lhs;rw[this]
  rw[Int.mul_add,Int.mul_assoc]
 omega
def qxz{v u x q r:Int}(h:Dig v u x q r)(hr:4294967296<=r)(hq:q<=4294967296):q=(u*4294967296+x)/v:=by
 apply qsk h
 have q0:0<=q:=Int.le_trans (qel h.v0 h.u0 h.u1 h.x0 h.x1).1 h.q0
 have:q*(v%4294967296)<=4294967296*4294967295:=qqa hq (by omega) (by omega) (by omega)
 have:=h.x0
 omega
def qxC{v u x q r:Int}(h:Dig v u x q r)(hq:q<4294967296):0<=q*(v%4294967296)/\q*(v%4294967296)<18446744073709551616:=by
 have q0:0<=q:=Int.le_trans (qel h.v0 h.u0 h.u1 h.x0 h.x1).1 h.q0
 have:q*(v%4294967296)<=4294967295*4294967295:=qqa (by omega) (by omega) (by omega) (by omega)
 exact⟨Int.mul_nonneg q0 (by omega),by omega⟩
def qF4{v U u a b Q w:Int}(h0:9223372036854775808<=v)(hU:0<=U)(hu:u=U/18446744073709551616)(h1:u<v)(ha:a=U%18446744073709551616/4294967296)(hb:b=U%18446744073709551616%4294967296)(hQ:Q=(u*4294967296+a)/v)(hw:w=u*4294967296+a-Q*v) :
  0<=w/\w<v/\Q*4294967296+(w*4294967296+b)/v=U/v/\w*4294967296+b-(w*4294967296+b)/v*v=U%v:=by
 have hv:0<v:=by omega
 obtain⟨n1,n2,n3,n4⟩:=qel (v:=v) (u:=u) (x:=a) h0 (by omega) h1 (by omega) (by omega)
 rw[<-hQ]at n1 n2 n3 n4;have w0:0<=w:=by omega
 have w1:w<v:=by omega
 have eU:U=w*4294967296+b+Q*4294967296*v:=by
  have:U=(u*4294967296+a)*4294967296+b:=by omega
  rw[Int.mul_right_comm];omega
 refine⟨w0,w1,?_,?_⟩
 ·have:U/v=(w*4294967296+b)/v+Q*4294967296:=by rw[eU,Int.add_mul_ediv_right _ _ (by omega:v≠0)]
  omega
 ·have e:=Int.mul_ediv_add_emod (w*4294967296+b) v
  have e2:U%v=(w*4294967296+b)%v:=by rw[eU,Int.add_mul_emod_self_right]
  rw[e2];rw[Int.mul_comm]at e;omega
def quh(a b:Int)(h0:0<=a)(h1:a<18446744073709551616)(hb:0<b):qaI .quo (.d (.i .u64 a)) (.d (.i .u64 b))=some (.i .u64 (a/b)):=by
 show (if b=0 then none else some (DV.i .u64 (IntKind.u64.wrap (a.tdiv b))))=_
 rw[if_neg (by omega),Int.tdiv_eq_ediv_of_nonneg h0,wU]
 have:0<=a/b:=Int.ediv_nonneg h0 (by omega)
 have:a/b<=a:=Int.ediv_le_self b h0
 congr 2
 omega
def qBX(a b:Int)(h0:0<=a)(hb:0<b):qaI .rem (.d (.i .u64 a)) (.d (.i .u64 b))=some (.i .u64 (a%b)):=by
 show (if b=0 then none else some (DV.i .u64 (a.tmod b)))=_
 rw[if_neg (by omega),Int.tmod_eq_emod_of_nonneg h0]
def orU(x y:Int)(i:Nat)(x0:0<=x)(x1:x<18446744073709551616)(hx:x%2^i=0)(y0:0<=y)(hy:y<2^i)(hi:i<=64):qaI .or (.d (.i .u64 x)) (.d (.i .u64 y))=some (.i .u64 (x+y)):=by
 have hp:(2:Int)^i<=2^64:=by exact_mod_cast Nat.pow_le_pow_right (by decide:0<2) hi
 have e64:(2:Int)^64=18446744073709551616:=by decide
 rw[<-Go.bits_join .u64 64 (by decide) (λn a b=>wrU a (by rw[<-e64];exact b)) i x y x0 hx (by rw[e64];exact x1) y0 hy (by omega)]
 rfl
def qxA{v u x:Int}(h0:9223372036854775808<=v)(h1:v<18446744073709551616)(u0:0<=u)(u1:u<v)(x0:0<=x)(x1:x<4294967296):∃q r,Dig v u x q r/\r<4294967296/\qaI .quo (.d (.i .u64 u)) (.d (.i .u64 (v/4294967296)))=some (.i .u64 q)/\IntKind.u64.wrap (q*(v/4294967296))=q*(v/4294967296)/\IntKind.u64.wrap (u-q*(v/4294967296))=r:=by
 obtain⟨d,hr⟩:=qF3 h0 h1 u0 u1 x0 x1;have e:=d.e
 have r0:=d.r0
 have q0:0<=u/(v/4294967296):=Int.ediv_nonneg u0 (by omega)
 have m0:0<=u/(v/4294967296)*(v/4294967296):=Int.mul_nonneg q0 (by omega)
 exact⟨_,_,d,hr,quh u _ u0 (by omega) (by omega),wrU m0 (by omega),wrU (by omega) (by omega)⟩
def qQt{hi lo y:Int}{s:Nat}(hs:s<=63)(h0:0<=hi)(l0:0<=lo)(l1:lo<18446744073709551616)(hy:hi<y)(hv:y*2^s<18446744073709551616) :
  ∃A L c,hi*2^s%18446744073709551616=A/\lo/2^(64-s)=L/\lo*2^s%18446744073709551616=c/\0<=A/\A%2^s=0/\0<=L/\L<2^s/\A+L<y*2^s/\(hi*18446744073709551616+lo)*2^s=(A+L)*18446744073709551616+c/\0<=c/\c<18446744073709551616:=by
 refine⟨_,_,_,rfl,rfl,rfl,?_⟩;have hp:(0:Int)<2^s:=Int.pow_pos (by decide)
 have hr:(0:Int)<2^(64-s):=Int.pow_pos (by decide)
 have hm:(2:Int)^(64-s)*2^s=18446744073709551616:=by
  rw[<-Int.pow_add,show 64-s+s=64 by omega];decide
 generalize (2:Int)^s=P at *
 generalize (2:Int)^(64-s)=R at *
 have a0:0<=hi*P:=Int.mul_nonneg h0 (by omega)
 have a1:(hi+1)*P<=y*P:=Int.mul_le_mul_of_nonneg_right (by omega) (by omega)
 rw[Int.add_mul,Int.one_mul]at a1;have eA:hi*P%18446744073709551616=hi*P:=Int.emod_eq_of_lt a0 (by omega)
 have L0:0<=lo/R:=Int.ediv_nonneg l0 (by omega)
 have L1:lo/R<P:=by
  apply Int.ediv_lt_of_lt_mul hr
  rw[Int.mul_comm,hm];exact l1
 have eL:lo*P/18446744073709551616=lo/R:=by
  rw[<-hm,Int.mul_ediv_mul_of_pos_left _ _ hp]
 rw[eA];refine⟨a0,Int.mul_emod_left _ _,L0,L1,by omega,?_,by omega,by omega⟩
 have e2:lo*P=lo/R*18446744073709551616+lo*P%18446744073709551616:=by
  rw[<-eL];omega
 rw[Int.add_mul,Int.mul_right_comm];omega
def qEQ(a:Int)(h0:0<=a)(h1:a<18446744073709551616):qaI .and (.d (.i .u64 a)) (.d (.i .u64 1))=some (.i .u64 (a%2)):=by
 have e64:(2:Int)^64=18446744073709551616:=by decide
 have e:=Go.bits_mask .u64 64 (by decide) (λn a b=>wrU a (by rw[<-e64];exact b)) 1 (by omega) a h0 (by rw[e64];exact h1)
 have e2:Go.bits .and .u64 a 1=a%2:=e
 rw[<-e2];rfl
def qyJ{x n:Int}(h0:0<=x)(h:2<=n):x/n<=x/2:=by
 apply Int.le_ediv_of_mul_le (by omega)
 have q0:0<=x/n:=Int.ediv_nonneg h0 (by omega)
 exact Int.le_trans (Int.mul_le_mul_of_nonneg_left h q0) (Int.ediv_mul_le x (by omega))
def qF5{s n:Int}(h0:0<=s)(hn:0<n):s/18446744073709551616/n=s/n/18446744073709551616/\(s/18446744073709551616%n*18446744073709551616+s%18446744073709551616)/n=s/n%18446744073709551616/\(s/18446744073709551616%n*18446744073709551616+s%18446744073709551616)%n=s%n:=by
 have e:=Int.mul_ediv_add_emod (s/18446744073709551616) n
 have hs:s=s/18446744073709551616*18446744073709551616+s%18446744073709551616:=by omega
 have r0:=Int.emod_nonneg (s/18446744073709551616) (b:=n) (by omega)
 have r1:=Int.emod_lt_of_pos (s/18446744073709551616) hn
 have l0:0<=s%18446744073709551616:=by omega
 have l1:s%18446744073709551616<18446744073709551616:=by omega
 have hh:0<=s/18446744073709551616:=by omega
 generalize s/18446744073709551616=h at *
 generalize s%18446744073709551616=l at *
 have q0:0<=h/n:=Int.ediv_nonneg hh (by omega)
 generalize h/n=q at *
 generalize h%n=ρ at *
 have e2:s=ρ*18446744073709551616+l+q*18446744073709551616*n:=by
  rw[Int.mul_right_comm,Int.mul_comm q n];omega
 have t0:0<=(ρ*18446744073709551616+l)/n:=Int.ediv_nonneg (by omega) (by omega)
 have t1:(ρ*18446744073709551616+l)/n<18446744073709551616:=by
  apply Int.ediv_lt_of_lt_mul hn
  omega
 have d:s/n=(ρ*18446744073709551616+l)/n+q*18446744073709551616:=by rw[e2,Int.add_mul_ediv_right _ _ (by omega:n≠0)]
 have m:s%n=(ρ*18446744073709551616+l)%n:=by rw[e2,Int.add_mul_emod_self_right]
 refine⟨by omega,by omega,m.symm⟩
def qK7{m n:Int}(hn:0<n)(h:m%n≠0):(-m)/n=-(m/n+1)/\(-m)%n=n-m%n:=by
 have e:=Int.mul_ediv_add_emod m n
 have r0:=Int.emod_nonneg m (b:=n) (by omega)
 have r1:=Int.emod_lt_of_pos m hn
 generalize m/n=q at *
 generalize m%n=ρ at *
 have e2 : -m=n-ρ + -(q+1)*n:=by
  rw[Int.neg_mul,Int.add_mul,Int.one_mul,Int.mul_comm q n];omega
 rw[e2,Int.add_mul_ediv_right _ _ (by omega:n≠0),Int.add_mul_emod_self_right,Int.ediv_eq_zero_of_lt (by omega) (by omega),Int.emod_eq_of_lt (by omega) (by omega)]
 omega
def qK6{m n:Int}(hn:0<n)(h:m%n=0):(-m)/n=-(m/n)/\(-m)%n=0:=by
 have e:=Int.mul_ediv_add_emod m n
 generalize m/n=q at *
 have e2 : -m=0 + -q*n:=by
  rw[Int.neg_mul,Int.mul_comm q n];omega
 rw[e2,Int.add_mul_ediv_right _ _ (by omega:n≠0),Int.add_mul_emod_self_right]
 simp
noncomputable def tabQ:PT:=
 (.bin 855 qmk (.bin 767 qmh (.bin 724 qol (.bin 674 F674 .nil .nil) .nil) (.bin 768 qhK .nil .nil)) (.bin 857 qfe (.bin 856 qml .nil .nil) (.bin 917 qhL .nil .nil)))
abbrev HQ(T:Tab):Prop:=∀n F,tabQ.get n=some F->T.F n=some F
noncomputable def tabF25:PT:=
 (.bin 858 F858 (.bin 768 qhK (.bin 674 F674 .nil .nil) .nil) (.bin 948 qmx (.bin 917 qhL .nil .nil) .nil))
def HF5(T:Tab):Prop:=∀n F,tabF25.get n=some F->T.F n=some F
noncomputable def tabG25:PT:=
 (.bin 1089 qeE .nil .nil)
def HGd(T:Tab):Prop:=∀n F,tabG25.get n=some F->T.F n=some F
section
attribute [local simp ↓] qgU qgS qgJ qgT qgG qgL qgH qgI sqK blK lpK qgZ qgX qgV qgY qgW qgz qgB qhC qga qf8 qf9 qgd qfC qfD qfn qfq qfB qfF qfp qfG qfv qfx qfy qfz qfE qfA qfo qfr qeK qfs qfw qf6 qf3 qfJ qfI qfR qfK qcZ qdA qfL qfM qg1 qeX qg0 qhz qe8 qfY qfZ qfS qfU qfT qeM qf7 qeN qfO qf2 qfW qfV qfQ qfP qf1 qf4 qfN qf0 qgA qeL qe7 qgq qe4 qb4 qgr qeO qeP qf5 qcs qhx qft qgb qgc qg5 qhA qg2 qgM qgN qgO qgP qgQ qgR qfu qgp qh0 qiZ qi0 qiX qiY qiV qhX qi4 qi1 qjA qi2 qjU qkA qfX
attribute [local simp] qck qg7 qg9 qgv qgw qgl qgm qhv qhw qgs qgt rd IOp.adds qao gh nid rgK rdS qgx qgy qhd qhe qhj qhk qhn qhi qhm qhl qfh qff qfg qhh qhg qgo qgn qhp qho qhq qhr qia qh8 qic qib qim qdk qiq qjL qjk qjK qjJ
def qa3(d:Int):CG:=decide (0<=d)&&decide (d<=73048)
def qg3(y:Int):CG:=(y.tmod 4==0)&&((y.tmod 100 != 0)||(y.tmod 400==0))
def lnI(y m:Int):Int:=if m=2 then (if qg3 y=true then 29 else 28)else if m=4\/m=6\/m=9\/m=11 then 30 else if m=1\/m=3\/m=5\/m=7\/m=8\/m=10\/m=12 then 31 else 0
def bgI(y:Int):Int:=365*(y-2000)+(y-2000+3)/4-(if 2100<y then 1 else 0)
def cmI(y:Int):Nat->Int
 |0=>0
 |n+1=>cmI y n+lnI y (1+n)
def qqS(T:Tab)(hT:HV T)(d:Int):T.val 22 [I d]=some (.d (.b (qa3 d)),false):=by
 rw[qab T (hT 22 F22 rfl) rfl];simp[F22,Fr.Aa,qa3];repeat' (refine qaX (λh=>?_) (λh=>?_)<;>(try simp at h)<;>(try simp[h]))
 all_goals omega
def qR3(T:Tab)(hT:HV T)(y:Int):T.val 66 [I y]=some (.d (.b (qg3 y)),false):=by
 rw[qab T (hT 66 F66 rfl) rfl];simp[F66,Fr.Aa,qg3];repeat' (refine qaX (λh=>?_) (λh=>?_)<;>(try simp at h)<;>(try simp[h]))
 all_goals simp_all
def qqV(T:Tab)(hT:HV T)(y:Int)(h1:2000<=y)(h2:y<=3000):T.val 71 [I y]=some (.d (I (bgI y)),false):=by
 rw[qab T (hT 71 F71 rfl) rfl];have w1:IntKind.i64.wrap (y-2000)=y-2000:=wrI (by omega) (by omega)
 have w2:IntKind.i64.wrap (y-2000+3)=y-2000+3:=wrI (by omega) (by omega)
 have q:(y-2000+3).tdiv 4=(y-2000+3)/4:=Int.tdiv_eq_ediv_of_nonneg (by omega)
 have w3:IntKind.i64.wrap ((y-2000+3)/4)=(y-2000+3)/4:=wrI (by omega) (by omega)
 have w4:IntKind.i64.wrap (365*(y-2000))=365*(y-2000):=wrI (by omega) (by omega)
 have w5:IntKind.i64.wrap ((y-2000+3)/4-1)=(y-2000+3)/4-1:=wrI (by omega) (by omega)
 have w6:IntKind.i64.wrap (365*(y-2000)+((y-2000+3)/4-1))=365*(y-2000)+((y-2000+3)/4-1):=wrI (by omega) (by omega)
 have w7:IntKind.i64.wrap (365*(y-2000)+(y-2000+3)/4)=365*(y-2000)+(y-2000+3)/4:=wrI (by omega) (by omega)
 simp[F71,Fr.Aa,w1,w2,q,w3];repeat' (refine qaX (λh=>?_) (λh=>?_)<;>(try simp at h)<;>(try simp[w1,q,w3,w4,w5,w6,w7]))
 all_goals
  simp_all[bgI]
  try omega
def qEE{R:Type}{y:Cu->CE R}:bo (qbS [PV.d (I 0),PV.d (I 0),PV.d (I 0),PV.d (I 0),PV.d (I 0),PV.d (I 0),PV.d (I 0),PV.d (I 0),PV.d (I 0),PV.d (I 0),PV.d (I 0),PV.d (I 0),PV.d (I 0)] [(0,K0,.d (I 0)),(1,K0,.d (I 31)),(2,K0,.d (I 28)),(3,K0,.d (I 31)),(4,K0,.d (I 30)),(5,K0,.d (I 31)),(6,K0,.d (I 30)),(7,K0,.d (I 31)),(8,K0,.d (I 31)),(9,K0,.d (I 30)),(10,K0,.d (I 31)),(11,K0,.d (I 30)),(12,K0,.d (I 31))]) (.h y)=y [.d (I 0),.d (I 31),.d (I 28),.d (I 31),.d (I 30),.d (I 31),.d (I 30),.d (I 31),.d (I 31),.d (I 30),.d (I 31),.d (I 30),.d (I 31)]:=rfl
def qKI:mkA [.d (I 0),.d (I 31),.d (I 28),.d (I 31),.d (I 30),.d (I 31),.d (I 30),.d (I 31),.d (I 31),.d (I 30),.d (I 31),.d (I 30),.d (I 31)]=.d (.a [I 0,I 31,I 28,I 31,I 30,I 31,I 30,I 31,I 31,I 30,I 31,I 30,I 31]):=rfl
def qqW(T:Tab)(hT:HV T)(y m:Int)(h1:1<=m)(h2:m<=12):T.val 72 [I y,I m]=some (.d (I (lnI y m)),false):=by
 rw[qab T (hT 72 F72 rfl) rfl];have e:=qR3 T hT y
 have g:([I 0,I 31,I 28,I 31,I 30,I 31,I 30,I 31,I 31,I 30,I 31,I 30,I 31]:Ct)[m.toNat]? = some (I (if m=2 then 28 else lnI y m)):=by
  have:m=1\/m=2\/m=3\/m=4\/m=5\/m=6\/m=7\/m=8\/m=9\/m=10\/m=11\/m=12:=by omega
  rcases this with rfl|rfl|rfl|rfl|rfl|rfl|rfl|rfl|rfl|rfl|rfl|rfl<;>rfl
 have h3:0<=m:=by omega
 have h4:m<13:=by omega
 have h5:m.toNat<13:=by omega
 simp[F72,Fr.Aa,qay,qEE,qKI];repeat' (refine qaX (λh=>?_) (λh=>?_)<;>(try simp at h)<;>(try simp[h,e,qE2,qwY,h3,h4,h5,qau,DV.cells]))
 all_goals simp_all[lnI]
def qss{g:Nat->Int}{x:Int}:∀(N:Nat),g 0<=x->x<g N->∃n,n<N/\g n<=x/\x<g (n+1)
 |0,h0,h1=>absurd h1 (by omega)
 |N+1,h0,h1=>by
  by_cases h:x<g N
  ·obtain⟨n,a,b,c⟩:=qss N h0 h;exact⟨n,by omega,b,c⟩
  ·exact⟨N,by omega,by omega,h1⟩
def qJt{y:Int}(h1:2000<=y)(h2:y<2200):qg3 y=true↔(y%4=0/\y≠2100):=by
 unfold qg3;rw[Int.tmod_eq_emod_of_nonneg (by omega),Int.tmod_eq_emod_of_nonneg (by omega),Int.tmod_eq_emod_of_nonneg (by omega)]
 simp only[zzf,Bool.or_eq_true,beq_iff_eq,bne_iff_ne,ne_eq];omega
def qE5{y:Int}(h1:2000<=y)(h2:y<2200):bgI (y+1)=bgI y+(if qg3 y=true then 366 else 365):=by
 have h:=qJt h1 h2
 unfold bgI;by_cases g:qg3 y=true
 ·rw[if_pos g];have:=h.1 g;split<;>split<;>omega
 ·rw[if_neg g];have:¬(y%4=0/\y≠2100):=λq=>g (h.2 q)
  split<;>split<;>omega
def qFI(y:Int):cmI y 12=if qg3 y=true then 366 else 365:=by
 simp only[cmI,lnI];cases qg3 y<;>simp
def Civ(d:Int)(n m:Nat):Prop:=n<200/\bgI (2000+n)<=d/\d<bgI (2000+n+1)/\m<12/\cmI (2000+n) m<=d-bgI (2000+n)/\d-bgI (2000+n)<cmI (2000+n) (m+1)
def qm7{d:Int}(h:qa3 d=true):∃n m,Civ d n m:=by
 simp only[qa3,zzf,zzq]at h;obtain⟨n,h1,h2,h3⟩:=qss (g:=λn=>bgI (2000+n)) (x:=d) 200 (by simp[bgI];omega) (by simp[bgI];omega)
 have h3':d<bgI (2000+n+1):=by simpa[Int.add_assoc]using h3
 have h4:=qE5 (y:=2000+n) (by omega) (by omega)
 obtain⟨m,h5,h6,h7⟩:=qss (g:=cmI (2000+n)) (x:=d-bgI (2000+n)) 12 (by simp only[cmI];omega) (by rw[qFI];omega)
 exact⟨n,m,h1,h2,h3',h5,h6,h7⟩
def qk2{y:Int}{m:Int}(h1:1<=m)(h2:m<=12):28<=lnI y m/\lnI y m<=31:=by
 unfold lnI;(repeat' split)<;>omega
def qo1(y:Int):∀{a b:Nat},a<=b->b<=12->cmI y a<=cmI y b
 |a,0,h,_=>by
  obtain rfl:a=0:=by omega
  exact Int.le_refl _
 |a,b+1,h,hb=>by
  by_cases e:a=b+1
  ·subst e;exact Int.le_refl _
  ·have:=qo1 y (a:=a) (b:=b) (by omega) (by omega)
   have:=qk2 (y:=y) (m:=1+b) (by omega) (by omega)
   simp only[cmI];omega
def qkB{a b:Nat}(h:a<=b):bgI (2000+a)<=bgI (2000+b):=by
 unfold bgI;split<;>split<;>omega
def qE0{e:DV}(h:XE e):∃a:Ag,e=a.dv/\a.ok:=by
 cases h with
 |mk o n s a h1 h2 h3 h4=>
  cases h4 with
  |mk es h5 h6 h7=>exact⟨⟨o,n,s,⟨es,false⟩⟩,rfl,h1,h2,h3,.mk es h5 h6 h7⟩
def qrN{es:Ct}{t:CG}(h:XL (.l (K1 4) es t)):es.length<=maxLen/\∃l:CF Ag,es=l.map Ag.dv/\∀a∈l,a.ok:=by
 cases h with
 |mk _ h5 h6=>exact⟨h5,qpZ λe he=>qE0 (h6 e he)⟩
def qrL{x a:Ag}(h:a.dv∈x.A8.l):SizeOf.sizeOf a.dv<SizeOf.sizeOf x.dv:=by
 have h1:=List.sizeOf_lt_of_mem h
 have h2:SizeOf.sizeOf x.A8.l<SizeOf.sizeOf x.dv:=by
  simp only[Ag.dv,DV.a.sizeOf_spec,List.cons.sizeOf_spec,DV.l.sizeOf_spec];omega
 omega
def bg0:bgI 2000=0:=by decide
def qr2{d:Int}{n m:Nat}(h:Civ d n m):0<=d/\d<=73048:=by
 obtain⟨h1,h2,h3,-⟩:=h
 have:=qkB (a:=0) (b:=n) (by omega)
 have b:=qkB (a:=n+1) (b:=200) (by omega)
 have e:bgI (2000+(200:Nat))=73049:=by decide
 have e0:bgI (2000+(0:Nat))=0:=by decide
 rw[show (2000:Int)+((n+1:Nat):Int)=2000+n+1 by omega]at b
 omega
def qJ5(T:Tab)(hT:HV T)(d:Int)(n m:Nat)(h:Civ d n m){k:KC (PV×CG)}{fr:Fr}{H:CP}(h0:gc [0,5] 0 ⟨fr,H⟩=⟨[(5,.d (I (2000+d/366))),(0,.d (I d))],[]⟩) :
  kC T.env 0 fr H (.h (.loop [0,5] qrk,k))=k (.exit 0) [(17,.d (.b false)),(5,.d (I (2000+n))),(0,.d (I d))] []:=by
 obtain⟨hp,hp2⟩:=qr2 h;obtain⟨h1,h2,h3,-⟩:=h;obtain⟨q,hq⟩:∃q:Nat,(q:Int)=d/366:=⟨(d/366).toNat,by omega⟩
 have hqd:bgI (2000+q)<=d:=by unfold bgI;split<;>omega
 have hqn:q<=n:=by
  by_cases g:q<=n
  ·exact g
  ·have:=qkB (a:=n+1) (b:=q) (by omega)
   rw[show (2000:Int)+((n+1:Nat):Int)=2000+n+1 by omega]at this
   omega
 refine qil (λy:Int=>⟨[(5,.d (I y)),(0,.d (I d))],[]⟩) (λi=>2000+((q+i:Nat):Int)) (n-q) ?_ ?_ (by rw[h0,<-hq];simp)
 ·intro B _;simp only[Nat.add_sub_cancel' hqn];have w:IntKind.i64.wrap (2000+(n:Int)+1)=2000+n+1:=wrI (by omega) (by omega)
  have e:=qqV T hT (2000+n+1) (by omega) (by omega)
  have g:¬bgI (2000+n+1)<=d:=by omega
  simp[qrk,w,e,g]
 ·intro B _ i hi c hc;obtain⟨z,hz⟩:∃z:Int,2000+((q+i:Nat):Int)=z:=⟨_,rfl⟩;have hz':2000+((q+(i+1):Nat):Int)=z+1:=by omega
  have b:=qkB (a:=q+(i+1)) (b:=n) (by omega)
  simp only[hz']at hc b;simp only[hz];have w:IntKind.i64.wrap (z+1)=z+1:=wrI (by omega) (by omega)
  have e:=qqV T hT (z+1) (by omega) (by omega)
  have g:bgI (z+1)<=d:=by omega
  simp[qrk,w,e,g];exact hc _ _ (by simp[gc,Fr.keep,qap,qam,qae,PV.refs,gcH,PV.ren,Obj.ren,Heap.obj,Fr.ren,gh])
def qJ6(T:Tab)(hT:HV T)(d:Int)(n m:Nat)(h:Civ d n m){k:KC (PV×CG)}{fr:Fr}{H:CP}(h0:gc [0,5,6] 0 ⟨fr,H⟩=⟨[(6,.d (I 1)),(5,.d (I (2000+n))),(0,.d (I (d-bgI (2000+n))))],[]⟩) :
  kC T.env 0 fr H (.h (.loop [0,5,6] qrl,k))=k (.exit 2) [(28,.d (.b false)),(6,.d (I (1+m))),(5,.d (I (2000+n))),(0,.d (I (d-bgI (2000+n)-cmI (2000+n) m)))] []:=by
 obtain⟨hp,hp2⟩:=qr2 h;obtain⟨h1,h2,h3,h4,h5,h6⟩:=h;generalize hy:(2000:Int)+n=y at *
 have hb:=qkB (a:=0) (b:=n) (by omega)
 rw[hy,show (2000:Int)+((0:Nat):Int)=2000 by simp,bg0]at hb
 refine qil (λs:Int×Int=>⟨[(6,.d (I s.1)),(5,.d (I y)),(0,.d (I s.2))],[]⟩) (λi=>(1+(i:Int),d-bgI y-cmI y i)) m ?_ ?_ (by rw[h0];simp[cmI])
 ·intro B _;have e:=qqW T hT y (1+m) (by omega) (by omega)
  have g:¬lnI y (1+m)<=d-bgI y-cmI y m:=by simp only[cmI]at h6;omega
  simp[qrl,e,g]
 ·intro B _ i hi c hc;have e:=qqW T hT y (1+i) (by omega) (by omega)
  have l:=qo1 y (a:=i+1) (b:=m) (by omega) (by omega)
  have l0:=qo1 y (a:=0) (b:=i+1) (by omega) (by omega)
  simp only[cmI]at l l0;have g:lnI y (1+i)<=d-bgI y-cmI y i:=by omega
  have w:IntKind.i64.wrap (1+(i:Int)+1)=1+(i:Int)+1:=wrI (by omega) (by omega)
  have w2:IntKind.i64.wrap (d-bgI y-cmI y i-lnI y (1+i))=d-bgI y-cmI y (i+1):=by
   have:=qk2 (y:=y) (m:=1+i) (by omega) (by omega)
   rw[wrI (by omega) (by omega)];simp only[cmI];omega
  simp[qrl,w,e,g,w2];exact hc _ _ (by simp[gc,Fr.keep,qap,qam,qae,PV.refs,gcH,PV.ren,Obj.ren,Heap.obj,Fr.ren,gh];omega)
def qR2(T:Tab)(hT:HV T)(d:Int)(n m:Nat)(h:Civ d n m):T.val 65 [I d]=some (.t [.d (I (2000+n)),.d (I (1+m)),.d (I (d-bgI (2000+n)-cmI (2000+n) m+1))],false):=by
 rw[qab T (hT 65 F65 rfl) rfl];obtain⟨hp,hp2⟩:=qr2 h;have hv:qa3 d=true:=by simp[qa3,hp,hp2]
 have e:=qqS T hT d
 have q:d.tdiv 366=d/366:=Int.tdiv_eq_ediv_of_nonneg hp
 have w1:IntKind.i64.wrap (d/366)=d/366:=wrI (by omega) (by omega)
 have w2:IntKind.i64.wrap (2000+d/366)=2000+d/366:=wrI (by omega) (by omega)
 rw[hv]at e;have lp:=λk fr H=>@qJ5 T hT d n m h k fr H
 have lp2:=λk fr H=>@qJ6 T hT d n m h k fr H
 have e2:=qqV T hT (2000+n) (by omega) (by have:=h.1;omega)
 have hb:=qkB (a:=0) (b:=n) (by omega)
 rw[show (2000:Int)+((0:Nat):Int)=2000 by simp,bg0]at hb
 have h2:=h.2.1
 have w3:IntKind.i64.wrap (d-bgI (2000+n))=d-bgI (2000+n):=wrI (by omega) (by omega)
 have l0:=qo1 (2000+n) (a:=0) (b:=m) (by omega) (by have:=h.2.2.2.1;omega)
 have h5:=h.2.2.2.2.1
 simp only[cmI]at l0;have w4:IntKind.i64.wrap (d-bgI (2000+n)-cmI (2000+n) m+1)=d-bgI (2000+n)-cmI (2000+n) m+1:=wrI (by omega) (by omega)
 simp[F65,Fr.Aa,e,q,w1,w2];refine (lp _ _ _ (by simp[gc,Fr.keep,qap,qam,qae,PV.refs,gcH,PV.ren,Obj.ren,Heap.obj,Fr.ren,gh])).trans ?_
 simp[e2,w3];refine (lp2 _ _ _ (by simp[gc,Fr.keep,qap,qam,qae,PV.refs,gcH,PV.ren,Obj.ren,Heap.obj,Fr.ren,gh])).trans ?_
 simp[w4];try rfl
section
variable {R:Type}{y:PV->CE R}
def qvx{n c:Nat}{l:Cu}:bo (qcU (some n) (.a l) c none) (.h y)=chk (c<n) (.h (bo l[c]? (.h y))):=by
 unfold chk;simp only[qcU,K.eq,Bool.and_false,zzg,if_false];change bo (@ite _ (c+1<=n) (Nat.decLe _ _) (mkP none ((List.drop c l).take 1)) none) (.h y)=_
 by_cases h:c<n
 ·rw[if_pos h,if_pos (by omega),qvB]
  cases l[c]? <;> rfl
 ·rw[if_neg h,if_neg (by omega)];rfl
def qrW(l:Cu):PV.cells (.a l)=l:=rfl
def qkN{n:Nat}{l:Cu}:fits (some n) (.a l)=(l.length==n):=rfl
end
section
attribute [local simp ↓] qcp qcq qb7 qdH qcN qew qbY qb1 qdj qdV qdW qdh qdi qb0 qdB qcd qd1 qd0 qd7 qej qdZ qeh qeg qcm qd3 qc2 qd4 qd6 qd5 qd8 qd2 qea qec qef qee qed qd9 qeb qei qdX qdY
attribute [local simp] qb9 qbr AA AP qaE qa8 chg qbj runs qa6 qbg PV.refs PV.AL IOp.okD IOp.barr qci Nat.testBit
attribute [local simp] gc Fr.keep qap qam qae PV.refs PV.AL qaG gcH qav Obj.refs PV.ren PV.Bt Obj.ren Heap.obj Fr.ren gh zzd
section
variable {R:Type}{E:Env}{ρ:Ab->PV}{H:CP}{id:Nat}{q:PV->CP->CE R}{x i:Ab}
def qdU:bo2 (qaa E ρ H id (.idxS x i)) (.h q)=qdE (ρ x) (ρ i) (.h λv=>q v H):=by
 cases hx:ρ x with
 |d v=>
  cases v with
  |s s=>
   cases hi:ρ i with
   |d w=>
    cases w with
    |i kk n=>rw[qwO hx hi];rfl
    |_=>simp[qaa,hx,hi,asI,qdE,bo2]
   |_=>simp[qaa,hx,hi,asI,qdE,bo2]
  |_=>simp[qaa,hx,qdE,bo2]
 |_=>simp[qaa,hx,qdE,bo2]
end
def okB(lo:Nat)(c:UInt8):CG:=decide (lo<=c.toNat)&&decide (c.toNat<=126)
def okC(c:UInt8):CG:=decide (65<=c.toNat)&&decide (c.toNat<=90)
def qdN(s:Cv)(lo most:Nat):CG:=s.all (okB lo)&&decide (s.length<=most)
def qJR(T:Tab)(s:Cv)(lo most:Nat)(hn:s.length<=maxLen){k:KC (PV×CG)}{r:Cz}{fr:Fr}{H:CP}(hr:qfk 6 k r)(h0:gc [0,1,2,9,10] 0 ⟨fr,H⟩=⟨[(10,.d (I 0)),(9,.d (I s.length)),(2,.d (I most)),(1,.d (.i .u8 lo)),(0,.d (.s s))],[]⟩) :
  kC T.env 0 fr H (.h (.loop [0,1,2,9,10] qrc,k))=brn (s.all (okB lo)) (.h (k (.exit 0) [(11,.d (.b false)),(10,.d (I s.length)),(9,.d (I s.length)),(2,.d (I most)),(1,.d (.i .u8 lo)),(0,.d (.s s))] [],r)):=by
 have hm:=mxl
 rw[qbi s (λi _=>⟨[(10,.d (I i)),(9,.d (I s.length)),(2,.d (I most)),(1,.d (.i .u8 lo)),(0,.d (.s s))],[]⟩) (λ_ _=>True) (λi _ x c=>if okB lo x=true then c ()else r) (λ_=>k (.exit 0) [(11,.d (.b false)),(10,.d (I s.length)),(9,.d (I s.length)),(2,.d (I most)),(1,.d (.i .u8 lo)),(0,.d (.s s))] []) ?_ ?_ h0 trivial]
 ·rw[qht (okB lo) r]
  ·cases s.all (okB lo)<;>rfl
  ·exact λ_ _ _ _=>rfl
 ·intro B _ _ _;simp[qrc]
 ·intro B _ i _ hi _ c hc;have h1:(i:Int)<s.length:=by omega
  have h3:=wr1 (i:=i) (by omega)
  simp[qrc,↓qdU,↓qbe,h1,hi,h3];repeat' (refine qaX (λh=>?_) (λh=>?_)<;>(try simp at h)<;>(try simp[h,h1,hi,h3,↓qdU,↓qbe]))
  all_goals first
   | (rw[if_neg (by simp[okB];omega)];exact hr _ _ (by simp[Fr.get]) (by simp[qan,gh]))
   | (rw[if_pos (by simp[okB];omega)];exact hc () _ _ trivial (by simp))
def qJ7(T:Tab)(s:Cv)(lo:Nat)(hn:s.length<=maxLen){k:KC (PV×CG)}{r:Cz}{fr:Fr}{H:CP}(hr:qfk 6 k r)(h0:gc [0,2,7] 0 ⟨fr,H⟩=⟨[(7,.d (I 0)),(2,.d (.i .u8 lo)),(0,.d (.s s))],[]⟩) :
  kC T.env 0 fr H (.h (.loop [0,2,7] qrm,k))=brn (s.all (okB lo)) (.h (k (.exit 0) [(15,.d (.b false)),(7,.d (I s.length)),(2,.d (.i .u8 lo)),(0,.d (.s s))] [],r)):=by
 have hm:=mxl
 rw[qbi s (λi _=>⟨[(7,.d (I i)),(2,.d (.i .u8 lo)),(0,.d (.s s))],[]⟩) (λ_ _=>True) (λi _ x c=>if (okB lo) x=true then c ()else r) (λ_=>k (.exit 0) [(15,.d (.b false)),(7,.d (I s.length)),(2,.d (.i .u8 lo)),(0,.d (.s s))] []) ?_ ?_ h0 trivial]
 ·rw[qht (okB lo) r]
  ·cases s.all (okB lo)<;>rfl
  ·exact λ_ _ _ _=>rfl
 ·intro B _ _ _;simp[qrm]
 ·intro B _ i _ hi _ c hc;have h1:(i:Int)<s.length:=by omega
  have h3:=wr1 (i:=i) (by omega)
  simp[qrm,↓qdU,↓qbe,h1,hi,h3];repeat' (refine qaX (λh=>?_) (λh=>?_)<;>(try simp at h)<;>(try simp[h,h1,hi,h3,↓qdU,↓qbe]))
  all_goals first
   | (rw[if_neg (by simp[okB,okC];omega)];exact hr _ _ (by simp[Fr.get]) (by simp[qan,gh]))
   | (rw[if_pos (by simp[okB,okC];omega)];exact hc () _ _ trivial (by simp))
def qJS(T:Tab)(s:Cv)(hn:s.length<=maxLen){k:KC (PV×CG)}{r:Cz}{fr:Fr}{H:CP}(hr:qfk 2 k r)(h0:gc [0,5,6] 0 ⟨fr,H⟩=⟨[(6,.d (I 0)),(5,.d (I s.length)),(0,.d (.s s))],[]⟩) :
  kC T.env 0 fr H (.h (.loop [0,5,6] qrd,k))=brn (s.all okC) (.h (k (.exit 0) [(7,.d (.b false)),(6,.d (I s.length)),(5,.d (I s.length)),(0,.d (.s s))] [],r)):=by
 have hm:=mxl
 rw[qbi s (λi _=>⟨[(6,.d (I i)),(5,.d (I s.length)),(0,.d (.s s))],[]⟩) (λ_ _=>True) (λi _ x c=>if okC x=true then c ()else r) (λ_=>k (.exit 0) [(7,.d (.b false)),(6,.d (I s.length)),(5,.d (I s.length)),(0,.d (.s s))] []) ?_ ?_ h0 trivial]
 ·rw[qht okC r]
  ·cases s.all okC<;>rfl
  ·exact λ_ _ _ _=>rfl
 ·intro B _ _ _;simp[qrd]
 ·intro B _ i _ hi _ c hc;have h1:(i:Int)<s.length:=by omega
  have h3:=wr1 (i:=i) (by omega)
  simp[qrd,↓qdU,↓qbe,h1,hi,h3];repeat' (refine qaX (λh=>?_) (λh=>?_)<;>(try simp at h)<;>(try simp[h,h1,hi,h3,↓qdU,↓qbe]))
  all_goals first
   | (rw[if_neg (by simp[okB,okC];omega)];exact hr _ _ (by simp[Fr.get]) (by simp[qan,gh]))
   | (rw[if_pos (by simp[okB,okC];omega)];exact hc () _ _ trivial (by simp))
def qKh(T:Tab)(s:Cv)(hn:s.length<=maxLen){k:KC (PV×CG)}{r:Cz}{fr:Fr}{H:CP}(hr:qfk 2 k r)(h0:gc [0,3] 0 ⟨fr,H⟩=⟨[(3,.d (I 0)),(0,.d (.s s))],[]⟩) :
  kC T.env 0 fr H (.h (.loop [0,3] qrt,k))=brn (s.all okC) (.h (k (.exit 0) [(10,.d (.b false)),(3,.d (I s.length)),(0,.d (.s s))] [],r)):=by
 have hm:=mxl
 rw[qbi s (λi _=>⟨[(3,.d (I i)),(0,.d (.s s))],[]⟩) (λ_ _=>True) (λi _ x c=>if okC x=true then c ()else r) (λ_=>k (.exit 0) [(10,.d (.b false)),(3,.d (I s.length)),(0,.d (.s s))] []) ?_ ?_ h0 trivial]
 ·rw[qht okC r]
  ·cases s.all okC<;>rfl
  ·exact λ_ _ _ _=>rfl
 ·intro B _ _ _;simp[qrt]
 ·intro B _ i _ hi _ c hc;have h1:(i:Int)<s.length:=by omega
  have h3:=wr1 (i:=i) (by omega)
  simp[qrt,↓qdU,↓qbe,h1,hi,h3];repeat' (refine qaX (λh=>?_) (λh=>?_)<;>(try simp at h)<;>(try simp[h,h1,hi,h3,↓qdU,↓qbe]))
  all_goals first
   | (rw[if_neg (by simp[okB,okC];omega)];exact hr _ _ (by simp[Fr.get]) (by simp[qan,gh]))
   | (rw[if_pos (by simp[okB,okC];omega)];exact hc () _ _ trivial (by simp))
def qkF(s:Cv):CG:=s.all okC&&decide (s.length=3)
def qC5(T:Tab)(hP:HP T)(s:Cv)(lo most:Nat)(hn:s.length<=maxLen):T.val 183 [.s s,.i .u8 lo,I most]=some (.d (.b (qdN s lo most)),false):=by
 rw[qab T (hP 183 F183 rfl) rfl];have lp:=λk fr H r hr h0=>@qJR T s lo most hn k r fr H hr h0
 simp[F183,Fr.Aa];rw[lp _ _ _ (some (.d (.b false),false)) (by simp[qoI,qoK,qoJ]) (by simp)]
 unfold qdN;cases s.all (okB lo)with
 |false=>simp
 |true=>simp
def qDm(T:Tab)(hP:HP T)(s:Cv)(lo most:Nat)(hn:s.length<=maxLen):T.val 685 [.s s,I most,.i .u8 lo]=some (.d (.b (qdN s lo most)),false):=by
 rw[qab T (hP 685 F685 rfl) rfl];have lp:=λk fr H r hr h0=>@qJ7 T s lo hn k r fr H hr h0
 unfold qdN;by_cases hm:s.length<=most
 ·have h1:¬(most:Int)<s.length:=by omega
  simp[F685,Fr.Aa,h1];rw[lp _ _ _ (some (.d (.b false),false)) (by simp[qoI,qoK,qoJ]) (by simp)]
  cases s.all (okB lo)with
  |false=>simp
  |true=>simp[hm]
 ·have h1:(most:Int)<s.length:=by omega
  simp[F685,Fr.Aa,h1,hm]
def qRi(T:Tab)(hP:HP T)(s:Cv)(hn:s.length<=maxLen):T.val 185 [.s s]=some (.d (.b (qkF s)),false):=by
 rw[qab T (hP 185 F185 rfl) rfl];have lp:=λk fr H r hr h0=>@qJS T s hn k r fr H hr h0
 simp[F185,Fr.Aa];rw[lp _ _ _ (some (.d (.b false),false)) (by simp[qoI,qoK,qoJ]) (by simp)]
 unfold qkF;have hq:((s.length:Int)==3)=decide (s.length=3):=by
  by_cases h:s.length=3
  ·simp[h]
  ·have:¬(s.length:Int)=3:=by omega
   simp[h,this]
 cases s.all okC with
 |false=>simp
 |true=>simp[hq]
def qSf(T:Tab)(hP:HP T)(s:Cv)(hn:s.length<=maxLen):T.val 861 [.s s]=some (.d (.b (qkF s)),false):=by
 rw[qab T (hP 861 F861 rfl) rfl];have lp:=λk fr H r hr h0=>@qKh T s hn k r fr H hr h0
 unfold qkF;by_cases h:s.length=3
 ·have h1:((s.length:Int) != 3)=false:=by simp[h]
  simp[F861,Fr.Aa,h1];rw[lp _ _ _ (some (.d (.b false),false)) (by simp[qoI,qoK,qoJ]) (by simp)]
  cases s.all okC with
  |false=>simp
  |true=>simp[h]
 ·have h1:((s.length:Int) != 3)=true:=by simp;omega
  simp[F861,Fr.Aa,h1,h]
def qig(s:Cv):CG:=decide (1<=s.length)&&qdN s 33 48
def qRh(T:Tab)(hP:HP T)(s:Cv)(hn:s.length<=maxLen):T.val 182 [.s s]=some (.d (.b (qig s)),false):=by
 rw[qab T (hP 182 qj2 rfl) rfl];have e:T.val 183 [.s s,.i .u8 33,I 48]=some (.d (.b (qdN s 33 48)),false):=qC5 T hP s 33 48 hn
 unfold qig;cases s with
 |nil=>simp[qj2,Fr.Aa,e]
 |cons a s=>simp[qj2,Fr.Aa,e]
def qR0(T:Tab)(hP:HP T)(s:Cv)(hn:s.length<=maxLen):T.val 607 [.s s]=some (.d (.b (qig s)),false):=by
 rw[qab T (hP 607 qfd rfl) rfl];have e:T.val 685 [.s s,I 48,.i .u8 33]=some (.d (.b (qdN s 33 48)),false):=qDm T hP s 33 48 hn
 unfold qig;cases s with
 |nil=>simp[qfd,Fr.Aa,e]
 |cons a s=>
  have h1:(1:Int)<=(s.length:Int)+1:=by omega
  simp[qfd,Fr.Aa,e,h1]
def qvH(T:Tab)(hP:HP T)(d:Int):T.val 184 [I d]=some (.d (.b (qa3 d)),false):=by
 rw[qab T (hP 184 qly rfl) rfl];by_cases h1:0<=d<;>by_cases h2:d<=73048<;>simp[qly,Fr.Aa,qa3,h1,h2]
def qvO(T:Tab)(hP:HP T)(d:Int):T.val 544 [I d]=some (.d (.b (qa3 d)),false):=by
 rw[qab T (hP 544 qfc rfl) rfl];by_cases h1:0<=d<;>by_cases h2:d<=73048<;>simp[qfc,Fr.Aa,qa3,h1,h2]
def qDQ(r:PV×CG):Prop:=∃n:Int,r=(.d (I n),false)/\0<=n/\n<=96
def qRl(T:Tab)(hS:HS T)(s:Cv)(hs:s.length<=maxLen):Anx qDQ (T.val 260 [.s s]):=by
 have hm:=mxl
 rw[qab T (hS 260 F260 rfl) rfl];simp[F260,Fr.Aa];refine qbV (λq:Nat×Int=>⟨[(4,.d (I q.1)),(3,.d (I q.2)),(0,.d (.s s))],[]⟩) (λq=>q.1<=s.length/\0<=q.2/\q.2<=96) (λq=>s.length-q.1) ?_ (0,0) ⟨zzK _,by omega,by omega⟩ (by simp)
 rintro B-⟨i,n⟩ ⟨hi,hn0,hn1⟩ hx;simp only at hi hn0 hn1⊢;by_cases hlt:i<s.length
 ·have h1:(i:Int)<s.length:=by omega
  have h3:=wr1 (i:=i) (by omega)
  have hb:=s[i].toNat_lt
  generalize hbe:((s[i].toNat:Nat):Int)=b at *
  have hu:∀c:Int,∃u:Int,IntKind.u8.wrap (b-c)=u/\0<=u/\u<256/\IntKind.i64.wrap u=u:=by
   intro c;refine⟨_,rfl,?_⟩;rw[IntKind.wrap_u8];have:0<=(b-c)%256/\(b-c)%256<256:=by omega
   exact⟨this.1,this.2,wrI (by omega) (by omega)⟩
  obtain⟨u,u1,u2,u3,u4⟩:=hu 48;obtain⟨v,v1,v2,v3,v4⟩:=hu 65;have w1:IntKind.i64.wrap (10*n)=10*n:=wrI (by omega) (by omega)
  have w2:IntKind.i64.wrap (10*n+u)=10*n+u:=wrI (by omega) (by omega)
  have w3:IntKind.i64.wrap (100*n)=100*n:=wrI (by omega) (by omega)
  have w4:IntKind.i64.wrap (100*n+v)=100*n+v:=wrI (by omega) (by omega)
  have w5:IntKind.i64.wrap (100*n+v+10)=100*n+v+10:=wrI (by omega) (by omega)
  have t1:0<=(10*n+u).tmod 97/\(10*n+u).tmod 97<=96:=by
   rw[Int.tmod_eq_emod_of_nonneg (by omega)];omega
  have t2:0<=(100*n+v+10).tmod 97/\(100*n+v+10).tmod 97<=96:=by
   rw[Int.tmod_eq_emod_of_nonneg (by omega)];omega
  have hx1:=hx (i+1,(10*n+u).tmod 97) ⟨by simp only;omega,t1⟩ (by simp only;omega)
  have hx2:=hx (i+1,(100*n+v+10).tmod 97) ⟨by simp only;omega,t2⟩ (by simp only;omega)
  simp[qwh,↓qdU,↓qbe,h1,hlt,h3,hbe];refine qbk (λh=>?_) (λh=>?_)
  ·simp[↓qdU,↓qbe,↓qaS,↓qa7,h1,hlt,h3,hbe,u1,u4,w1,w2];exact hx1 _ _ (by simp)
  ·simp[↓qdU,↓qbe,↓qaS,↓qa7,h1,hlt,h3,hbe,v1,v4,w3,w4,w5];exact hx2 _ _ (by simp)
 ·have h1:¬((i:Int)<s.length):=by omega
  simp[qwh,h1];exact qag ⟨n,rfl,hn0,hn1⟩
def qcl{T:Tab}{f:Nat}{a:CF (K×CF TA)}(h:qak T f ⟨a,[(none,[.b])]⟩)(d:Nat){ds:Ct}(hd:qbm d a ds):∃b own,T.val f ds=some (.d (.b b),own):=by
 obtain⟨vs,own,h1,h2⟩:=h d ds hd;cases vs with
 |nil=>exact h2.elim
 |cons v vs=>
  cases vs with
  |cons=>exact h2.2.elim
  |nil=>
   obtain⟨cs,c1,c2⟩:=h2.1;obtain⟨w,r,rfl,⟨b,rfl⟩,c3⟩:=qaU c2;obtain rfl:=qbQ c3;cases c1;exact⟨b,own,h1⟩
def qdz{T:Tab}{f:Nat}{a:CF (K×CF TA)}(h:qak T f ⟨a,[(none,[.i .i64])]⟩)(d:Nat){ds:Ct}(hd:qbm d a ds):∃n own,T.val f ds=some (.d (I n),own)/\(Lit.int .i64 n).wf=true:=by
 obtain⟨vs,own,h1,h2⟩:=h d ds hd;cases vs with
 |nil=>exact h2.elim
 |cons v vs=>
  cases vs with
  |cons=>exact h2.2.elim
  |nil=>
   obtain⟨cs,c1,c2⟩:=h2.1;obtain⟨w,r,rfl,⟨b,rfl,hw⟩,c3⟩:=qaU c2;obtain rfl:=qbQ c3;cases c1;exact⟨b,own,h1,hw⟩
def qgC{d:Nat}{s:Cv}(hs:s.length<=maxLen):HsK d (none,[.s]) (.s s):=⟨[.s s],rfl,⟨s,rfl,hs⟩,trivial⟩
def qdo{d:Nat}{n:Int}(h:(Lit.int .i64 n).wf=true):HsK d (none,[.i .i64]) (I n):=⟨[I n],rfl,⟨n,rfl,h⟩,trivial⟩
def qsf:∀q:Nat,q<10->∃c:UInt8,List.drop q (48::List.take q [49,50,51,52,53,54,55,56,57])=[c]
 |0,_=>⟨_,rfl⟩|1,_=>⟨_,rfl⟩|2,_=>⟨_,rfl⟩|3,_=>⟨_,rfl⟩|4,_=>⟨_,rfl⟩|5,_=>⟨_,rfl⟩|6,_=>⟨_,rfl⟩|7,_=>⟨_,rfl⟩|8,_=>⟨_,rfl⟩|9,_=>⟨_,rfl⟩
 |n+10,h=>absurd h (by omega)
def qDU(r:PV×CG):Prop:=∃(w:Cv) (e:Int),r=(.t [.d (.s w),.d (I e)],false)/\w.length<=maxLen/\(Lit.int .i64 e).wf=true
def qC3(T:Tab)(hS:HS T)(s:Cv)(hs:s.length<=maxLen):Anx qDU (T.val 177 [.s s]):=by
 have hm:=mxl
 obtain⟨b,own,e259⟩:=qcl (qD5 T hS) 0 (ds:=[.s s]) ⟨qgC hs,trivial⟩;rw[qab T (hS 177 qhG rfl) rfl];by_cases g1:s.length<1
 ·have g1':s=[]:=List.length_eq_zero_iff.1 (by omega)
  subst g1';simp[qhG,Fr.Aa];exact qag ⟨_,_,rfl,by simp,by decide⟩
 have g1':¬((s.length:Int)<1):=by omega
 by_cases g2:46<s.length
 ·have g2':(46:Int)<s.length:=by omega
  simp[qhG,Fr.Aa,g1,g1',g2,g2'];exact qag ⟨_,_,rfl,by simp,by decide⟩
 have g2':¬((46:Int)<s.length):=by omega
 cases b with
 |false=>
  simp[qhG,Fr.Aa,g1,g1',g2,g2',e259];exact qag ⟨_,_,rfl,by simp,by decide⟩
 |true=>
  obtain⟨r,e260,n,rfl,n0,n1⟩:=qRl T hS (s++[48,48]) (by rw[zzp];simp;omega)
  have k1:IntKind.i64.wrap (98-n)=98-n:=wrI (by omega) (by omega)
  obtain⟨q,hq,q1⟩:∃q:Nat,q<10/\(98-n).tdiv 10=q:=by
   rw[Int.tdiv_eq_ediv_of_nonneg (by omega)]
   exact⟨((98-n)/10).toNat,by omega,by omega⟩
  obtain⟨p,hp,p1⟩:∃p:Nat,p<10/\(98-n).tmod 10=p:=by
   rw[Int.tmod_eq_emod_of_nonneg (by omega)]
   exact⟨((98-n)%10).toNat,by omega,by omega⟩
  have q2:IntKind.i64.wrap (q:Int)=q:=wrI (by omega) (by omega)
  have q3:IntKind.i64.wrap ((q:Int)+1)=(q:Int)+1:=wrI (by omega) (by omega)
  have p3:IntKind.i64.wrap ((p:Int)+1)=(p:Int)+1:=wrI (by omega) (by omega)
  obtain⟨c,hc⟩:=qsf q hq;obtain⟨c2,hc2⟩:=qsf p hp;have b1:(q:Int)+1<=10:=by omega
  have m1:min q 9+1-q=1:=by omega
  have m2:min p 9+1-p=1:=by omega
  have b2:(p:Int)+1<=10:=by omega
  have b3:(q:Int)<=(q:Int)+1:=by omega
  have b4:(p:Int)<=(p:Int)+1:=by omega
  have l1:s.length+2<4611686018427387904:=by omega
  have l2:s.length+1<4611686018427387904:=by omega
  have l3:s.length+1+1<4611686018427387904:=by omega
  have b5:(0:Int)<=(q:Int)+1:=by omega
  have b6:(0:Int)<=(p:Int)+1:=by omega
  simp[qhG,Fr.Aa,g1,g1',g2,g2',e259,e260,k1,q1,q2,q3,p1,p3,hc,hc2,b1,b2,b3,b4,b5,b6,l1,l2,l3,m1,m2,↓qcp,↓qcq,↓qb7,↓qdH,↓qcN,↓qew,↓qbY,qb9,↓qb1,↓qdj,↓qdV,↓qdW,↓qdh,↓qdi,↓qb0,↓qdB,↓qcd,↓qd1,↓qd0,↓qd7,↓qej,↓qdZ,↓qeh,↓qeg,↓qcm,↓qd3,↓qc2,↓qd4,↓qd6,↓qd5,↓qd8,↓qd2,↓qea,↓qec,↓qef,↓qee,↓qed,↓qd9,↓qeb,↓qei,↓qdX,↓qdY,qbr,AA,AP,qaE,qa8,chg,qbj,runs,qa6,qbg,PV.refs,PV.AL,IOp.okD,IOp.barr,qci,Nat.testBit];exact qag ⟨_,_,rfl,by simp;omega,by decide⟩
def qDV(r:PV×CG):Prop:=∃(w:Cv),r=(.d (.s w),false)/\w.length<=maxLen
def qRb(T:Tab)(hS:HS T)(id:Int)(hid:(Lit.int .i64 id).wf=true):Anx qDV (T.val 106 [I id]):=by
 have hm:=mxl
 rw[qab T (hS 106 F106 rfl) rfl];by_cases g1:id<1000
 ·simp[F106,Fr.Aa,g1];exact qag ⟨_,rfl,by simp⟩
 by_cases g2:99999999<id
 ·simp[F106,Fr.Aa,g1,g2];exact qag ⟨_,rfl,by simp⟩
 simp[F106,Fr.Aa,g1,g2];refine qbV (λq:Nat×Int×Cv=>⟨[(4,.d (I q.1)),(3,.d (.s q.2.2)),(0,.d (I q.2.1))],[]⟩) (λq=>q.1<=8/\0<=q.2.1/\q.2.1<=99999999/\q.2.2.length=q.1) (λq=>8-q.1) ?_ (0,id,[]) ⟨by simp only;omega,by simp only;omega,by simp only;omega,rfl⟩ (by simp)
 rintro B-⟨i,m,s⟩ ⟨hi,hn0,hn1,hl⟩ hx;simp only at hi hn0 hn1 hl⊢;by_cases hlt:i<8
 ·have h1:(i:Int)<8:=by omega
  have h3:=wr1 (i:=i) (by omega)
  obtain⟨p,hp,p1⟩:∃p:Nat,p<10/\m.tmod 10=p:=by
   rw[Int.tmod_eq_emod_of_nonneg (by omega)]
   exact⟨(m%10).toNat,by omega,by omega⟩
  have hq:0<=m.tdiv 10/\m.tdiv 10<=99999999:=by
   rw[Int.tdiv_eq_ediv_of_nonneg (by omega)];omega
  have q1:IntKind.i64.wrap (m.tdiv 10)=m.tdiv 10:=wrI (by omega) (by omega)
  have p3:IntKind.i64.wrap ((p:Int)+1)=(p:Int)+1:=wrI (by omega) (by omega)
  obtain⟨c2,hc2⟩:=qsf p hp;have b2:(p:Int)+1<=10:=by omega
  have b4:(p:Int)<=(p:Int)+1:=by omega
  have b6:(0:Int)<=(p:Int)+1:=by omega
  have m2:min p 9+1-p=1:=by omega
  have l2:1+s.length<4611686018427387904:=by omega
  have hx1:=hx (i+1,m.tdiv 10,c2::s) ⟨by simp only;omega,hq.1,hq.2,by simp[hl]⟩ (by simp only;omega)
  simp[qwg,h1,h3,p1,p3,q1,hc2,b2,b4,b6,m2,l2];exact hx1 _ _ (by simp)
 ·have h1:¬((i:Int)<8):=by omega
  have l2:s.length+1+1<4611686018427387904:=by omega
  have l3:2+s.length<4611686018427387904:=by omega
  obtain⟨r,e177,w,e,rfl,hw,he⟩:=qC3 T hS (67::66::s) (by simp;omega)
  simp[qwg,h1,e177,l2,l3];exact qag ⟨w,rfl,hw⟩
def qG1(T:Tab)(hS:HS T):qak T 177 qCc:=by
 intro d ds hd;cases ds with
 |nil=>exact hd.elim
 |cons x ds=>
  cases ds with
  |cons=>exact hd.2.elim
  |nil=>
   obtain⟨cs,c1,c2⟩:=hd.1;obtain⟨w,r,rfl,⟨s,rfl,hs⟩,c3⟩:=qaU c2;obtain rfl:=qbQ c3;cases c1;obtain⟨r,e,w,n,rfl,hw,hn⟩:=qC3 T hS s hs;exact⟨[.s w,I n],false,e,qgC hw,qdo hn,trivial⟩
def qGZ(T:Tab)(hS:HS T):qak T 106 quJ:=by
 intro d ds hd;cases ds with
 |nil=>exact hd.elim
 |cons x ds=>
  cases ds with
  |cons=>exact hd.2.elim
  |nil=>
   obtain⟨cs,c1,c2⟩:=hd.1;obtain⟨w,r,rfl,⟨n,rfl,hn⟩,c3⟩:=qaU c2;obtain rfl:=qbQ c3;cases c1;obtain⟨r,e,w,rfl,hw⟩:=qRb T hS n hn;exact⟨[.s w],false,e,qgC hw,trivial⟩
def qhb(o:Nat):Ct->PV
 |[]=>.d (.l K0 [] true)
 |[_]=>.r o K0 0 1 true
 |l=>.r o K0 0 l.length false
def qhc:Ct->CP
 |[]=>[]
 |l=>[some (.sl K0 0 l)]
section
variable {R:Type}{H:CP}{id:Nat}{k:K}{b:Nat}{q:PV->CP->CE R}
def qhY{o off len:Nat}{k':K}:bo2 (qcI H id k b (.r o k' off len true) []) (.h q)=match H.obj o with
  |some (.sl k'' _ es)=>chk ((K.eq k k'&&K.eq k k''&&decide (off+len<=es.length)&&decide (len*b<=2^47))=true) (.h (q (.r o k' off len true) H))
  |_=>none:=by
 simp only[qcI,qbU,qa4,qck,Bool.true_or,if_true,chk,List.length_nil,Nat.add_zero,List.isEmpty_nil,Bool.or_true];cases H.obj o with
 |none=>rfl
 |some x=>
  cases x with
  |sl k'' ro es=>
   simp only;split<;>rfl
  |_=>rfl
end
def IsL(m:Nat)(r:PV×CG):Prop:=∃(l:Ct) (own:CG),r=(.d (.l K0 l false),own)/\l.length<=m/\∀x∈l,∃n,x=I n/\(Lit.int .i64 n).wf=true
def qmW{i:Int}{l:Ct}(wi:(Lit.int .i64 i).wf=true)(hw:∀x∈l,∃n,x=I n/\(Lit.int .i64 n).wf=true):∀x∈I i::l,∃n,x=I n/\(Lit.int .i64 n).wf=true:=by
 intro x hx;rcases List.mem_cons.1 hx with rfl|hx
 ·exact⟨i,rfl,wi⟩
 ·exact hw x hx
def qx3(T:Tab)(hS:HS T){es:Ct}{t:CG}{d:Nat}(hX:HsK d (K0,[.l (K1 4) 3518437208883 tGl]) (.l (K1 4) es t))(n:Int)(hn:(Lit.int .i64 n).wf=true) :
  ∃i p k s b own,T.val 540 [.l (K1 4) es t,I n]=some (.t [.d (AGl.dv ⟨i,p,k,s⟩),.d (.b b)],own)/\(Lit.int .i64 i).wf=true/\(Lit.int .i64 p).wf=true:=by
 obtain⟨vs,own,h1,h2⟩:=qoN T hS d [.l (K1 4) es t,I n] ⟨hX,qdo hn,trivial⟩;cases vs with
 |nil=>exact h2.elim
 |cons v vs=>
  cases vs with
  |nil=>exact h2.2.elim
  |cons w vs=>
   cases vs with
   |cons=>exact h2.2.2.elim
   |nil=>
    obtain⟨⟨cs,c1,c2⟩,⟨ds,d1,d2⟩,-⟩:=h2;obtain⟨w1,r1,rfl,⟨i,rfl,q1⟩,c3⟩:=qaU c2;obtain⟨w2,r2,rfl,⟨p,rfl,q2⟩,c4⟩:=qaU c3;obtain⟨w3,r3,rfl,⟨k,rfl,q3⟩,c5⟩:=qaU c4;obtain⟨w4,r4,rfl,⟨s,rfl,q4⟩,c6⟩:=qaU c5;obtain rfl:=qbQ c6;obtain⟨w5,r5,rfl,⟨b,rfl⟩,d3⟩:=qaU d2;obtain rfl:=qbQ d3;cases d1;have e:v=AGl.dv ⟨i,p,k,s⟩:=(Option.some.inj c1).symm
    subst e;exact⟨i,p,k,s,b,own,h1,q1,q2⟩
def qRd(T:Tab)(hS:HS T){es:Ct}{t:CG}{d:Nat}(hX:HsK d (K0,[.l (K1 4) 3518437208883 tGl]) (.l (K1 4) es t))(n:Int)(hn:(Lit.int .i64 n).wf=true):Anx (IsL 40) (T.val 1103 [.l (K1 4) es t,I n]):=by
 obtain⟨i0,p0,k0,s0,b0,own0,e0,wi0,wp0⟩:=qx3 T hS hX n hn;rw[qab T (hS 1103 F1103 rfl) rfl];simp[F1103,Fr.Aa,e0];refine qbV (λq:Ct×CG×(Int×Int×Int×Cv)=>⟨[(7,.d (.b q.2.1)),(6,.p 0 0 0),(5,qhb 1 q.1),(0,.d (.l (K1 4) es t))],some (.box (K1 4) (.d (AGl.dv ⟨q.2.2.1,q.2.2.2.1,q.2.2.2.2.1,q.2.2.2.2.2⟩)))::qhc q.1⟩) (λq=>q.1.length<=40/\(∀x∈q.1,∃n,x=I n/\(Lit.int .i64 n).wf=true)/\(Lit.int .i64 q.2.2.1).wf=true/\(Lit.int .i64 q.2.2.2.1).wf=true) (λq=>40-q.1.length) ?_ ([],b0,i0,p0,k0,s0) ⟨by simp,by simp,wi0,wp0⟩ (by simp[qhb,qhc])
 rintro B-⟨l,b,i,p,k,s⟩ ⟨hl,hw,wi,wp⟩ hx;simp only at hl hw wi wp⊢;cases b with
 |false=>
  match l,hl,hw with
  |[],hl,hw=>
   simp[qiQ,qhb,qhc];exact qag ⟨[],_,rfl,by simp,hw⟩
  |[x],hl,hw=>
   simp[qiQ,qhb,qhc];exact qag ⟨[x],_,rfl,by simp,hw⟩
  |x::y::l,hl,hw=>
   simp[qiQ,qhb,qhc];exact qag ⟨x::y::l,_,rfl,hl,hw⟩
 |true=>
  obtain⟨i2,p2,k2,s2,b2,own2,e2,wi2,wp2⟩:=qx3 T hS hX p wp;by_cases g40:l.length<40
  ·have hx':=hx (I i::l,b2,i2,p2,k2,s2) ⟨by simp only[zzn];omega,qmW wi hw,wi2,wp2⟩ (by simp only[zzn];omega)
   clear hx
   match l,hl,hw,hx',g40 with
   |[],hl,hw,hx',g40=>
    simp only[qhb,qhc]at hx'⊢;simp[qiQ,↓qhY,g40];refine qbk (λh=>?_) (λh=>?_)
    ·simp;exact qag ⟨[I i],_,rfl,by simp,qmW wi hw⟩
    ·simp[e2];exact hx' _ _ (by simp)
   |[x],hl,hw,hx',g40=>
    simp only[qhb,qhc]at hx'⊢;simp[qiQ,↓qhY,g40];refine qbk (λh=>?_) (λh=>?_)
    ·simp;exact qag ⟨[I i,x],_,rfl,by simp,qmW wi hw⟩
    ·simp[e2];exact hx' _ _ (by simp)
   |x::y::l,hl,hw,hx',g40=>
    simp only[qhb,qhc]at hx'⊢;have g1:(l.length:Int)+1+1<40:=by simp only[zzn]at g40;omega
    have g2:(1+(l.length+1+1))*8<=140737488355328:=by simp only[zzn]at g40;omega
    have g3:l.length+1+1+1=1+(l.length+1+1):=by omega
    have ht:l.take l.length=l:=zzv (zzt _)
    have tk:List.take (1+(l.length+1+1)) (I i::x::y::l)=I i::x::y::l:=zzv (by simp only[zzn];omega)
    simp[qiQ,↓qhY,g1,g2,ht];refine qbk (λh=>?_) (λh=>?_)
    ·simp[g3,ht];exact qag ⟨I i::x::y::l,_,by rw[tk],by simp only[zzn]at g40⊢;omega,qmW wi hw⟩
    ·simp[e2];exact hx' _ _ (by simp;omega)
  ·match l,hl,hw,g40 with
   |[],hl,hw,g40=>exact absurd (by simp) g40
   |[x],hl,hw,g40=>exact absurd (by simp) g40
   |x::y::l,hl,hw,g40=>
    have g1:¬((l.length:Int)+1+1<40):=by simp only[zzn]at g40;omega
    simp[qiQ,qhb,qhc,g1];exact qag ⟨x::y::l,_,rfl,hl,hw⟩
def qy7{d m:Nat}{r:PV×CG}(h:IsL m r)(hm:m<=9223372036854775807):∃vs own,r=(qa5 (vs.map .d),own)/\qbm d [(K0,[.l K0 9223372036854775807 [.i .i64]])] vs:=by
 obtain⟨l,own,rfl,hl,hw⟩:=h;have hmx:maxLen=9223372036854775807:=rfl
 refine⟨[.l K0 l false],own,rfl,⟨[.l K0 l false],rfl,⟨l,false,rfl,by omega,by omega,λe he=>?_⟩,trivial⟩,trivial⟩
 obtain⟨n,rfl,hn⟩:=hw e he;exact⟨[I n],rfl,⟨n,rfl,hn⟩,trivial⟩
def glI{d:Nat}{ds:Ct}(hd:qbm d [(K0,[.l (K1 4) 3518437208883 tGl]),(K0,[.i .i64])] ds):∃es t n,ds=[.l (K1 4) es t,I n]/\HsK d (K0,[.l (K1 4) 3518437208883 tGl]) (.l (K1 4) es t)/\(Lit.int .i64 n).wf=true/\es.length<=3518437208883:=by
 cases ds with
 |nil=>exact hd.elim
 |cons x ds=>
  cases ds with
  |nil=>exact hd.2.elim
  |cons y ds=>
   cases ds with
   |cons=>exact hd.2.2.elim
   |nil=>
    obtain⟨h1,⟨cs,c1,c2⟩,-⟩:=hd;obtain⟨w5,r5,rfl,⟨n,rfl,hn⟩,d3⟩:=qaU c2;obtain rfl:=qbQ d3;cases c1;obtain⟨ds,q1,q2⟩:=id h1;obtain⟨w,r,rfl,⟨es,t,rfl,h3,h4,h5⟩,d3⟩:=qaU q2;obtain rfl:=qbQ d3;cases q1;exact⟨es,t,n,rfl,h1,hn,h4⟩
def qyH(T:Tab)(hS:HS T):qak T 1103 quP:=by
 intro d ds hd;obtain⟨es,t,n,rfl,h1,hn,_⟩:=glI hd;obtain⟨r,e,hr⟩:=qRd T hS h1 n hn;obtain⟨vs,own,rfl,hv⟩:=qy7 (d:=d) hr (by omega)
 exact⟨vs,own,e,hv⟩
section
variable {R:Type}{E:Env}{ρ:Ab->PV}{H:CP}{id:Nat}{q:PV->CP->CE R}
def qmX{p:Nat}{xs:CF Ab}:bo2 (qaa E ρ H id (.prim p xs)) (.h q)=bo (qeA p (xs.map ρ)) (.h λv=>q v H):=by
 simp only[qaa];exact qi3 _ _ _
end
def qiC(T:Tab)(hT:HT T)(n:Int)(h0 : -9223372036854775808<=n)(h1:n<9223372036854775808):T.val 44 [I n]=some (.d (Wd n).dv,false):=by
 have e:(⟨n.fdiv (2^63),IntKind.u64.wrap n⟩:Bf)=Wd n:=by
  have:n.fdiv (2^63)=n/9223372036854775808:=Int.fdiv_eq_ediv_of_nonneg _ (by decide)
  rw[this,wU,Wd];congr 1
  omega
 rw[qab T (hT 44 F44 rfl) rfl,<-e];simp[F44,Fr.Aa,qaI,qjQ,↓qaS,qcJ,IntKind.bits];rfl
def qDk(T:Tab)(hT:HT T)(n:Int)(h0 : -9223372036854775808<=n)(h1:n<9223372036854775808):T.val 48 [I n]=some (.d (.i .u64 (aI n)),false):=by
 rw[qab T (hT 48 F48 rfl) rfl];by_cases h:n<0
 ·have e:IntKind.u64.wrap (0-IntKind.u64.wrap n)=aI n:=by rw[wU,wU,qhV h];omega
  simp[F48,Fr.Aa,↓qaS,qcJ,h,e];try (rw[<-e];simp)
 ·have e:IntKind.u64.wrap n=aI n:=by rw[wU,qoO h];omega
  simp[F48,Fr.Aa,↓qaS,qcJ,h,e]
def pr0{x y c:Int}(h1:0<=x)(h2:0<=y)(h3:0<=c)(h4:c<=1):qeA 0 [.d (.i .u64 x),.d (.i .u64 y),.d (.i .u64 c)]=some (.t [.d (.i .u64 ((x+y+c)%18446744073709551616)),.d (.i .u64 ((x+y+c)/18446744073709551616))]):=by
 simp only[qeA];rw[if_pos ⟨h1,h2,h3,h4⟩]
def pr1{x y:Int}(h1:0<=x)(h2:0<=y)(h2':y<18446744073709551616):qeA 1 [.d (.i .u64 x),.d (.i .u64 y),.d (.i .u64 0)]=some (.t [.d (.i .u64 ((x+18446744073709551616-y-0)%18446744073709551616)),.d (.i .u64 (if x<y+0 then 1 else 0))]):=by
 simp only[qeA];rw[if_pos ⟨h1,h2,h2',by omega,by omega⟩]
def qGw{A B z:Int}{r:Cz}(h:some (PV.d (Wd z).dv,false)=r)(h1:A=z/18446744073709551616)(h2:B=z%18446744073709551616):some (PV.d (.a [I A,.i .u64 B]),false)=r:=by rw[wd0 h1 h2];exact h
def qvN(T:Tab)(hT:HT T)(z:Int)(h0 : -170141183460469231731687303715884105728<=z)(h1:z<170141183460469231731687303715884105728):T.val 49 [(Wd z).dv]=some (.d (Wd (ngW z)).dv,false):=by
 obtain⟨a,ea,a1,a2⟩:=qeD z;obtain⟨r,hr⟩:∃r:Cz,some (.d (Wd (ngW z)).dv,false)=r:=⟨_,rfl⟩;rw[qab T (hT 49 F49 rfl) rfl,ea,hr];have x1:=qS6 (n:=a.Lo) (by omega) (by omega)
 have x2:=qS5 (n:=a.Hi) (by omega) (by omega)
 have h5:=pr0 (x:=18446744073709551615-a.Lo) (y:=1) (c:=0) (by omega) (by omega) (by omega) (by omega)
 simp[F49,Fr.Aa,↓qaS,qcJ,↓qmX,↓qaP x1,↓qaP x2,h5,↓qay,↓qaC,↓qaB,putAt,mkA,qaf,qau,qaQ,qaw];refine qGw hr ?_ ?_
 ·simp only[wU,wI];unfold ngW;split<;>omega
 ·unfold ngW;split<;>omega
def qdc(z:Int):PV×CG:=if -170141183460469231731687303715884105728<=z/\z<170141183460469231731687303715884105728 then (.t [.d (Wd z).dv,.d (I 0)],false)else (.t [.d (.a [I 0,.i .u64 0]),.d (I 6)],false)
def qCK{z A B:Int}{r:Cz}(h:some (qdc z)=r)(h0 : -170141183460469231731687303715884105728<=z/\z<170141183460469231731687303715884105728)(h1:A=z/18446744073709551616)(h2:B=z%18446744073709551616):some (PV.t [.d (.a [I A,.i .u64 B]),.d (I 0)],false)=r:=by
 rw[<-h,qdc,if_pos h0,wd0 h1 h2]
def qCL{z:Int}{r:Cz}(h:some (qdc z)=r)(h0:¬(-170141183460469231731687303715884105728<=z/\z<170141183460469231731687303715884105728)):some (PV.t [.d (.a [I 0,.i .u64 0]),.d (I 6)],false)=r:=by
 rw[<-h,qdc,if_neg h0]
def qDa(T:Tab)(hT:HT T)(x y:Int)(x0 : -170141183460469231731687303715884105728<=x)(x1:x<170141183460469231731687303715884105728)(y0 : -170141183460469231731687303715884105728<=y)(y1:y<170141183460469231731687303715884105728):T.val 31 [(Wd x).dv,(Wd y).dv]=some (qdc (x+y)):=by
 obtain⟨a,ea,a1,a2⟩:=qeD x;obtain⟨b,eb,b1,b2⟩:=qeD y;obtain⟨r,hr⟩:∃r,some (qdc (x+y))=r:=⟨_,rfl⟩;rw[qab T (hT 31 F31 rfl) rfl,ea,eb,hr];have h5:=pr0 (x:=a.Lo) (y:=b.Lo) (c:=0) (by omega) (by omega) (by omega) (by omega)
 simp[F31,Fr.Aa,↓qaS,qcJ,↓qmX,h5,↓qay,↓qaC,↓qaB,putAt,mkA,qaf,qau,qaQ,qaw];repeat' (refine qaX (λh=>?_) (λh=>?_)<;>(try simp at h)<;>(try simp[h,↓qaS,qcJ,↓qay,↓qaC,↓qaB,putAt,mkA,qaf,qau,qaQ,qaw]))
 all_goals
  simp only[wI,wU]at *
  first|exact qCK hr (by omega) (by omega) (by omega)|exact qCL hr (by omega)
def qDg(T:Tab)(hT:HT T)(x y:Int)(x0 : -170141183460469231731687303715884105728<=x)(x1:x<170141183460469231731687303715884105728)(y0 : -170141183460469231731687303715884105728<=y)(y1:y<170141183460469231731687303715884105728):T.val 42 [(Wd x).dv,(Wd y).dv]=some (qdc (x-y)):=by
 obtain⟨a,ea,a1,a2⟩:=qeD x;obtain⟨b,eb,b1,b2⟩:=qeD y;obtain⟨r,hr⟩:∃r,some (qdc (x-y))=r:=⟨_,rfl⟩;rw[qab T (hT 42 F42 rfl) rfl,ea,eb,hr];have h5:=pr1 (x:=a.Lo) (y:=b.Lo) (by omega) (by omega) (by omega)
 obtain⟨c,hc⟩:∃c:Int,(if a.Lo<b.Lo+0 then 1 else 0)=c:=⟨_,rfl⟩
 rw[hc]at h5;have hc2:(c=1/\a.Lo<b.Lo)\/(c=0/\¬a.Lo<b.Lo):=by
  by_cases h:a.Lo<b.Lo
  ·rw[if_pos (by omega)]at hc;omega
  ·rw[if_neg (by omega)]at hc;omega
 clear hc
 simp[F42,Fr.Aa,↓qaS,qcJ,↓qmX,h5,↓qay,↓qaC,↓qaB,putAt,mkA,qaf,qau,qaQ,qaw];repeat' (refine qaX (λh=>?_) (λh=>?_)<;>(try simp at h)<;>(try simp[h,↓qaS,qcJ,↓qay,↓qaC,↓qaB,putAt,mkA,qaf,qau,qaQ,qaw]))
 all_goals
  simp only[wI,wU]at *
  first|exact qCK hr (by omega) (by omega) (by omega)|exact qCL hr (by omega)
def qxN(a b:Bf):eqA [1,1] (.d a.dv) (.d b.dv)=some (a.Hi==b.Hi&&(a.Lo==b.Lo&&true)):=by simp[eqA,eqL,eqK,Bf.dv]
def qjs(z:Int):PV×CG:=if -9223372036854775808<=z/\z<9223372036854775808 then (.t [.d (I z),.d (.b true)],false)else (.t [.d (I 0),.d (.b false)],false)
def qvL(T:Tab)(hT:HT T)(z:Int)(h0 : -170141183460469231731687303715884105728<=z)(h1:z<170141183460469231731687303715884105728):T.val 46 [(Wd z).dv]=some (qjs z):=by
 obtain⟨a,ea,a1,a2⟩:=qeD z;obtain⟨r,hr⟩:∃r,some (qjs z)=r:=⟨_,rfl⟩;obtain⟨n,hn⟩:∃n,IntKind.i64.wrap a.Lo=n:=⟨_,rfl⟩;have hn2:=hn
 rw[wI]at hn2;obtain⟨b,eb,b1,b2⟩:=qeD n;have e44:=qiC T hT n (by omega) (by omega)
 rw[eb]at e44;rw[qab T (hT 46 F46 rfl) rfl,ea,hr];by_cases hz : -9223372036854775808<=z/\z<9223372036854775808
 ·have c1:b.Hi=a.Hi:=by omega
  have c2:b.Lo=a.Lo:=by omega
  have c3:n=z:=by omega
  have e:=qxN b a
  rw[c1,c2]at e;simp only[beq_self_eq_true,Bool.true_and]at e;simp[F46,Fr.Aa,↓qaS,qcJ,hn,e44,e];rw[<-hr,qjs,if_pos hz,c3]
 ·have e:eqA [1,1] (.d b.dv) (.d a.dv)=some false:=by
   rw[qxN];have:¬(b.Hi=a.Hi/\b.Lo=a.Lo):=by omega
   simp only[Bool.and_true];congr 1
   simpa using this
  simp[F46,Fr.Aa,↓qaS,qcJ,hn,e44,e];rw[<-hr,qjs,if_neg hz]
def qvM(T:Tab)(hT:HT T)(x y:Int)(hx0:0<=x)(hx:x<18446744073709551616)(hy0:0<=y)(hy:y<18446744073709551616):T.val 47 [.i .u64 x,.i .u64 y]=some (.t [.d (.i .u64 (x*y/18446744073709551616)),.d (.i .u64 (x*y%18446744073709551616))],false):=by
 obtain⟨r,hr⟩:∃r:Cz,some (.t [.d (.i .u64 (x*y/18446744073709551616)),.d (.i .u64 (x*y%18446744073709551616))],false)=r:=⟨_,rfl⟩;have hm:=Go.mul64_arith x y hx0 hx hy0 hy
 have e1:=qmS x hx0 hx
 have e2:=qiv x
 have e3:=qmS y hy0 hy
 have e4:=qiv y
 have e5:=qnN (x%4294967296) (y%4294967296)
 have e6:=qnN (x/4294967296) (y%4294967296)
 generalize hw0:x%4294967296*(y%4294967296)%18446744073709551616=w0 at *
 generalize hp:x/4294967296*(y%4294967296)%18446744073709551616=p at *
 have e7:=qiv w0
 have e8:=qoP p (w0/4294967296)
 generalize ht:(p+w0/4294967296)%18446744073709551616=t at *
 have e9:=qmS t (by omega) (by omega)
 have e10:=qiv t
 have e11:=qnN (x%4294967296) (y/4294967296)
 generalize hq:x%4294967296*(y/4294967296)%18446744073709551616=u at *
 have e12:=qoP (t%4294967296) u
 generalize hw1:(t%4294967296+u)%18446744073709551616=w1 at *
 have e13:=qnN (x/4294967296) (y/4294967296)
 generalize hs:x/4294967296*(y/4294967296)%18446744073709551616=s at *
 have e14:=qoP s (t/4294967296)
 have e15:=qiv w1
 have e16:=qoP ((s+t/4294967296)%18446744073709551616) (w1/4294967296)
 rw[hm]at e16;generalize hv:(s+t/4294967296)%18446744073709551616=v at *
 have e17:=qnN x y
 generalize x%4294967296=xl at *
 generalize x/4294967296=xh at *
 generalize y%4294967296=yl at *
 generalize y/4294967296=yh at *
 generalize w0/4294967296=wh at *
 generalize t%4294967296=tl at *
 generalize t/4294967296=th at *
 generalize w1/4294967296=w1h at *
 generalize x*y/18446744073709551616=hi at *
 generalize x*y%18446744073709551616=lo at *
 rw[qab T (hT 47 F47 rfl) rfl,hr];simp[-qeN,-qeM,F47,Fr.Aa,↓qaP e1,↓qaP e2,↓qaP e3,↓qaP e4,↓qaP e5,↓qaP e6,↓qaP e7,↓qaP e8,↓qaP e9,↓qaP e10,↓qaP e11,↓qaP e12,↓qaP e13,↓qaP e14,↓qaP e15,↓qaP e16,↓qaP e17];exact hr
def qAQ(a b:Int):a*b=if (a<0)=(b<0)then aI a*aI b else -(aI a*aI b):=by
 unfold aI;by_cases h:a<0<;>by_cases h':b<0<;>simp[h,h',Int.neg_mul,Int.mul_neg]
def qRr(T:Tab)(hT:HT T)(a b:Int)(a0 : -9223372036854775808<=a)(a1:a<9223372036854775808)(b0 : -9223372036854775808<=b)(b1:b<9223372036854775808):T.val 37 [I a,I b]=some (.d (Wd (a*b)).dv,false):=by
 have ha:0<=aI a/\aI a<=9223372036854775808:=by unfold aI;split<;>omega
 have hb:0<=aI b/\aI b<=9223372036854775808:=by unfold aI;split<;>omega
 have p0:0<=aI a*aI b:=Int.mul_nonneg ha.1 hb.1
 have p1:aI a*aI b<=9223372036854775808*9223372036854775808:=qqa ha.2 hb.2 hb.1 (by omega)
 have e1:=qDk T hT a a0 a1
 have e2:=qDk T hT b b0 b1
 have e3:=qvM T hT (aI a) (aI b) ha.1 (by omega) hb.1 (by omega)
 have hm:=qAQ a b
 generalize aI a*aI b=P at *
 have e4:=qvN T hT P (by omega) (by omega)
 have w1:IntKind.i64.wrap (P/18446744073709551616)=P/18446744073709551616:=wrI (by omega) (by omega)
 have e5:DV.a [I (P/18446744073709551616),.i .u64 (P%18446744073709551616)]=(Wd P).dv:=wd0 rfl rfl
 have ng:ngW P=-P:=by unfold ngW;rw[if_neg (by omega)]
 rw[ng]at e4;obtain⟨r,hr⟩:∃r:Cz,some (.d (Wd (a*b)).dv,false)=r:=⟨_,rfl⟩;generalize aI a=A at *
 generalize aI b=B at *
 generalize P/18446744073709551616=hi at *
 generalize P%18446744073709551616=lo at *
 rw[qab T (hT 37 F37 rfl) rfl,hr];by_cases h:(a<0)=(b<0)
 ·rw[if_pos h]at hm;have hd:decide (a<0)=decide (b<0):=by simp only[h]
  simp[F37,Fr.Aa,↓qaS,qcJ,e1,e2,e3,w1,↓qay,↓qaC,↓qaB,putAt,mkA,qaf,qau,qaQ,qaw,hd,e5];rw[<-hr,hm]
 ·rw[if_neg h]at hm;have hd:decide (a<0)=!decide (b<0):=by
   by_cases h1:a<0<;>by_cases h2:b<0<;>simp_all
  simp[F37,Fr.Aa,↓qaS,qcJ,e1,e2,e3,w1,↓qay,↓qaC,↓qaB,putAt,mkA,qaf,qau,qaQ,qaw,hd,e5,e4];rw[<-hr,hm]
end
end
section
attribute [local simp ↓] qgU qgS qgJ qgT qgG qgL qgH qgI sqK blK lpK qgZ qgX qgV qgY qgW qgz qgB qhC qga qf8 qf9 qgd qfC qfD qfn qfq qfB qfF qfp qfG qfv qfx qfy qfz qfE qfA qfo qfr qeK qfs qfw qf6 qf3 qfJ qfI qfR qfK qcZ qdA qfL qfM qg1 qeX qg0 qhz qe8 qfY qfZ qfS qfU qfT qeM qf7 qeN qfO qf2 qfW qfV qfQ qfP qf1 qf4 qfN qf0 qgA qeL qe7 qgq qe4 qb4 qgr qeO qeP qf5 qcs qhx qft qgb qgc qg5 qhA qg2 qgM qgN qgO qgP qgQ qgR qfu qgp
attribute [local simp] qck qg7 qg9 qgv qgw qgl qgm qhv qhw qgs qgt rd IOp.adds qao gh nid rgK rdS qgx qgy qhd qhe qhj qhk qhn qhi qhm qhl qfh qff qfg qhh qhg qgo qgn qhp qho qhq qhr
def qgD{α:Type}(p:α->CG)(l:CF α):Int:=match l.findIdx? p with|some j=>(j:Int)|none=>-1
def quB{α R:Type}(p:α->CG)(r:Nat->CE R)(done:Unit->CE R)(step:Nat->Unit->α->(Unit->CE R)->CE R)(hs:∀i b x c,step i b x c=if p x=true then r i else c ()):∀(i:Nat) (ls:CF α),rounds step done i () ls=match ls.findIdx? p with|some j=>r (i+j)|none=>done ()
 |i,[]=>by simp[rounds]
 |i,x::l=>by
  rw[rounds,hs,quB p r done step hs (i+1) l,List.findIdx?_cons];cases h:p x with
  |true=>simp
  |false=>
   simp only[zzg,if_false];cases l.findIdx? p with
   |none=>simp
   |some j=>simp;congr 1;omega
section
variable {α:Type}
def qJK(T:Tab)(g:Nat)(q:K)(dv:α->DV)(p:α->CG)(c:PV)(cs:Cu)(H0:CP)(hH:Cl H0)(hc:∀r∈PV.AL (c::cs),r<H0.length)(l:CF α)(hv:∀x∈l,T.ref g (.d (dv x)::c::cs) H0=some (.d (.b (p x)),H0))(s:CG)(hn:l.length<=maxLen){k:KC (PV×CP)}{r:Nat->CB}{fr:Fr}{H:CP}
  (hr:∀(j:Nat) fr J,fr.get 4=.d (I j)->qan fr=[]->k .ret fr (H0++J)=r j)
  (h0:gc [0,1,7,8] H0.length ⟨fr,H⟩=⟨[(8,.d (I 0)),(7,.d (I l.length)),(1,.f g (c::cs)),(0,.d (.l q (l.map dv) s))],H0⟩) :
  kC T.env H0.length fr H (.h (.loop [0,1,7,8] (qiR q),k))=match l.findIdx? p with|some j=>r j|none=>k (.exit 0) [(9,.d (.b false)),(8,.d (I l.length)),(7,.d (I l.length)),(1,.f g (c::cs)),(0,.d (.l q (l.map dv) s))] H0:=by
 rw[qbi l (λi _=>⟨[(8,.d (I i)),(7,.d (I l.length)),(1,.f g (c::cs)),(0,.d (.l q (l.map dv) s))],H0⟩) (λ_ _=>True) (λi _ x c=>if p x=true then r i else c ()) (λ_=>k (.exit 0) [(9,.d (.b false)),(8,.d (I l.length)),(7,.d (I l.length)),(1,.f g (c::cs)),(0,.d (.l q (l.map dv) s))] H0) ?_ ?_ h0 trivial]
 ·rw[quB p r _ _ (λ_ _ _ _=>rfl)]
  simp only[Nat.zero_add]
 ·intro B _ _ _;simp[qiR]
 ·intro B _ i _ hi _ cc hcc;have hm:=mxl
  have h1:(i:Int)<l.length:=by omega
  have h3:=wr1 (i:=i) (by omega)
  have he:=hv l[i] (zzs hi)
  simp[qiR,h1,hi,he];repeat' (refine qaX (λh=>?_) (λh=>?_)<;>(try simp at h)<;>(try simp[h,h3]))
  ·simpa using hr i _ [] (by simp[Fr.get]) (by simp[qan,gh])
  ·refine hcc () _ _ trivial ?_;rw[qnk _ hH (by simpa[qam,Fr.keep,PV.refs,PV.AL,gh]using hc)]
   simp[Fr.keep,gh]
def qqy(T:Tab){n:Nat}{q:K}(hF:T.F n=some (qhO q))(g:Nat)(dv:α->DV)(p:α->CG)(c:PV)(cs:Cu)(H0:CP)(hH:Cl H0)(hc:∀r∈PV.AL (c::cs),r<H0.length)(l:CF α)(hv:∀x∈l,T.ref g (.d (dv x)::c::cs) H0=some (.d (.b (p x)),H0))(s:CG)(hn:l.length<=maxLen) :
  T.ref n [.d (.l q (l.map dv) s),.f g (c::cs)] H0=some (.d (I (qgD p l)),H0):=by
 rw[qbW T hF rfl];have lp:=λk r fr H=>@qJK α T g q dv p c cs H0 hH hc l hv s hn k r fr H
 simp[qhO,Fr.Aa];refine (lp _ (λj=>some (.d (I j),H0)) _ _ ?_ ?_).trans ?_
 ·intro j fr J h1 h2;simp[h1,h2,qbh,qeT hH]
 ·rw[qnk _ hH (by simpa[qam,Fr.keep,PV.refs,PV.AL,gh]using hc)]
  simp[Fr.keep,gh]
 ·unfold qgD;cases l.findIdx? p with
  |some j=>rfl
  |none=>simp[qbh,qnj hH]
end
end
section
attribute [local simp ↓] qgU qgS qgJ qgT qgG qgL qgH qgI sqK blK lpK qgZ qgX qgV qgY qgW qgz qgB qhC qga qf8 qf9 qgd qfC qfD qfn qfq qfB qfF qfp qfG qfv qfx qfy qfz qfE qfA qfo qfr qeK qfs qfw qf6 qf3 qfJ qfI qfR qfK qcZ qdA qfL qfM qg1 qeX qg0 qhz qe8 qfY qfZ qfS qfU qfT qeM qf7 qeN qfO qf2 qfW qfV qfQ qfP qf1 qf4 qfN qf0 qgA qeL qe7 qgq qe4 qb4 qgr qeO qeP qf5 qcs qhx qft qgb qgc qg5 qhA qg2 qgM qgN qgO qgP qgQ qgR qfu qgp qh0
attribute [local simp] qck qg7 qg9 qgv qgw qgl qgm qhv qhw qgs qgt rd IOp.adds qao gh nid rgK rdS qgx qgy qhd qhe qhj qhk qhn qhi qhm qhl qfh qff qfg qhh qhg qgo qgn qhp qho qhq qhr qia qh8 qic qib qim qdk qiq
def AC.zero:AC:=⟨0,0,0,0,[],[],[]⟩
def AQ.zero:AQ:=⟨⟨[],true⟩,false,0,0,false⟩
def Ak.zero:Ak:=⟨[],[],[],0,0,0,0,AQ.zero,AQ.zero,⟨[],true⟩,⟨[],true⟩⟩
def qjG(id:Int)(a:AC):CG:=a.Id==id
def qcL(b:Ap)(id:Int):CE AC:=(b.AZ.l.findIdx? (qjG id)).bind λj=>b.AZ.l[j]?
abbrev HU(T:Tab):Prop:=∀n F,tabU.get n=some F->T.F n=some F
def qPz(T:Tab)(hT:HU T)(a:AC)(b:Ap)(id:Int):T.ref 19 [.d a.dv,.p 1 0 0] [some (.box (K1 22) (.d b.dv)),some (.box K0 (.d (I id)))]=some (.d (.b (qjG id a)),[some (.box (K1 22) (.d b.dv)),some (.box K0 (.d (I id)))]):=by
 rw[qbW T (hT 19 F19 rfl) rfl];have hH:=qoj (K1 22) K0 b.dv (I id)
 simp[F19,Fr.Aa,qbh,qjG];exact (qeT hH [some (.box (K1 7) (.d a.dv))] _)
def qRf(T:Tab)(hT:HU T)(b:Ap)(id:Int)(hb:b.ok):T.val 16 [b.dv,I id]=some (.d (I (qgD (qjG id) b.AZ.l)),false):=by
 rw[qab T (hT 16 F16 rfl) rfl];have e:=qqy T (hT 18 F18 rfl) 19 AC.dv (qjG id) (.p 1 0 0) [] [some (.box (K1 22) (.d b.dv)),some (.box K0 (.d (I id)))] (qoj _ _ _ _) (by simp[PV.refs,PV.AL]) b.AZ.l (λa _=>qPz T hT a b id) b.AZ.t (hb.2.2.2.2.2.1).1
 simp[F16,Fr.Aa,e]
def qof(T:Tab)(hT:HU T)(b:Ap)(id:Int)(hb:b.ok):T.val 12 [b.dv,I id]=some (.t [.d ((qcL b id).getD .zero).dv,.d (.b (qcL b id).isSome)],false):=by
 rw[qab T (hT 12 F12 rfl) rfl];have e:=qRf T hT b id hb
 unfold qgD at e;unfold qcL;cases hf:b.AZ.l.findIdx? (qjG id)with
 |none=>
  rw[hf]at e;simp[F12,Fr.Aa,e];try rfl
 |some j=>
  rw[hf]at e;have hj:j<b.AZ.l.length:=(List.findIdx?_eq_some_iff_findIdx_eq.1 hf).1
  simp[F12,Fr.Aa,e,hj];try rfl
def qaj{α β:Type}(f:Nat->β->α->β):Nat->β->CF α->β
  |_,b,[]=>b
  |i,b,x::r=>qaj f (i+1) (f i b x) r
def qdb{α β R:Type}(f:Nat->β->α->β)(done:β->CE R)(step:Nat->β->α->(β->CE R)->CE R)(hs:∀i b x c,step i b x c=c (f i b x)):∀(i:Nat) (b:β) (ls:CF α),rounds step done i b ls=done (qaj f i b ls)
  |i,b,[]=>rfl
  |i,b,x::l=>by rw[rounds,hs,qaj,qdb f done step hs (i+1)]
def qyf{α β:Type}(f:Nat->β->α->β)(P:Nat->β->Prop)(h:∀i b x,P i b->P (i+1) (f i b x)):∀(l:CF α) (i:Nat) (b:β),P i b->P (i+l.length) (qaj f i b l)
  |[],i,b,hb=>hb
  |x::l,i,b,hb=>by
    have:=qyf f P h l (i+1) (f i b x) (h i b x hb)
    rw[zzn,show i+(l.length+1)=i+1+l.length by omega]
    exact this
def frm(l:CF Ak)(b:Int):Int:=match l[b.toNat]? with|some p=>p.From|none=>0
def cAt(l:CF Ak)(nm:Cv)(day b:Int)(p:Ak):CG:=(p.Name==nm)&&(decide (p.From<=day)&&(decide (b<0)||decide (frm l b<p.From)))
def fAt(l:CF Ak)(nm:Cv)(day:Int)(i:Nat)(b:Int)(p:Ak):Int:=if cAt l nm day b p=true then (i:Int)else b
def bst(l:CF Ak)(nm:Cv)(day:Int):Int:=qaj (fAt l nm day) 0 (-1) l
def inB(i:Nat)(b:Int):Prop:=b=-1\/∃j:Nat,b=(j:Int)/\j<i
def qyV(l:CF Ak)(nm:Cv)(day:Int)(i:Nat)(b:Int)(p:Ak)(h:inB i b):inB (i+1) (fAt l nm day i b p):=by
  unfold fAt;split
  · exact .inr ⟨i,rfl,by omega⟩
  · rcases h with h|⟨j,h1,h2⟩
    · exact .inl h
    · exact .inr ⟨j,h1,by omega⟩
def qFe(l:CF Ak)(nm:Cv)(day:Int):inB l.length (bst l nm day):=by
  have:=qyf (fAt l nm day) inB (qyV l nm day) l 0 (-1) (.inl rfl)
  simpa[bst]using this
def atP(l:CF Ak)(nm:Cv)(day:Int):CE Ak:=if bst l nm day<0 then none else l[(bst l nm day).toNat]?
def qJW(T:Tab)(l:CF Ak)(t:CG)(nm:Cv)(day:Int)(hn:l.length<=maxLen){k:KC (PV×CG)}{fr:Fr}{H:CP}
    (h0:gc [0,1,2,6,8,11,12,13] 0 ⟨fr,H⟩=⟨[(13,.d (I 0)),(12,.d (I l.length)),(11,.d (.l (K1 19) (l.map Ak.dv) t)),(8,.d (I (-1))),(6,.p 0 0 0),(2,.d (I day)),(1,.d (.s nm)),(0,.d (.l (K1 19) (l.map Ak.dv) t))],[some (.box (K1 19) (.d Ak.zero.dv))]⟩) :
    kC T.env 0 fr H (.h (.loop [0,1,2,6,8,11,12,13] qot,k))=k (.exit 0) [(14,.d (.b false)),(13,.d (I l.length)),(12,.d (I l.length)),(11,.d (.l (K1 19) (l.map Ak.dv) t)),(8,.d (I (bst l nm day))),(6,.p 0 0 0),(2,.d (I day)),(1,.d (.s nm)),(0,.d (.l (K1 19) (l.map Ak.dv) t))] [some (.box (K1 19) (.d Ak.zero.dv))]:=by
  rw[qbi l (λi b=>⟨[(13,.d (I i)),(12,.d (I l.length)),(11,.d (.l (K1 19) (l.map Ak.dv) t)),(8,.d (I b)),(6,.p 0 0 0),(2,.d (I day)),(1,.d (.s nm)),(0,.d (.l (K1 19) (l.map Ak.dv) t))],[some (.box (K1 19) (.d Ak.zero.dv))]⟩) inB (λi b x c=>c (fAt l nm day i b x)) (λb=>k (.exit 0) [(14,.d (.b false)),(13,.d (I l.length)),(12,.d (I l.length)),(11,.d (.l (K1 19) (l.map Ak.dv) t)),(8,.d (I b)),(6,.p 0 0 0),(2,.d (I day)),(1,.d (.s nm)),(0,.d (.l (K1 19) (l.map Ak.dv) t))] [some (.box (K1 19) (.d Ak.zero.dv))]) ?_ ?_ h0 (.inl rfl)]
  · rw[qdb (fAt l nm day) _ _ (λ_ _ _ _=>rfl)];rfl
  · intro B _ b _
    simp[qot]
  · intro B _ i b hi hv c hc
    have hm:=mxl
    have h1:(i:Int)<l.length:=by omega
    have h3:=wr1 (i:=i) (by omega)
    have hs:=qyV l nm day i b l[i] hv
    rcases hv with rfl|⟨j,rfl,hj⟩
    · simp[qot,h1,hi,↓qcp,↓qb7,↓qcN,↓qbY,qb9,↓qb1,↓qb0,↓qcd,↓qcm,qbr,AA,AP,qaE,qa8,chg,qbj,runs,qa6,qbg,PV.refs,IOp.okD,Nat.testBit]
      repeat' (refine qaX (λh=>?_) (λh=>?_)<;>(try simp at h)<;>(try simp[h,h3,↓qcq,↓qb7,↓qcN,↓qbY,qb9,↓qb1,↓qdj,↓qb0,↓qcd,↓qcm,↓qc2,qbr,AA,AP,qaE,qa8,chg,qbj,runs,qa6,qbg,PV.refs,PV.AL,IOp.okD,Nat.testBit]))
      all_goals first
        | (have e:fAt l nm day i (-1) l[i]=(i:Int):=by simp[fAt,cAt, *]
           rw[e]at hs⊢;exact hc _ _ _ hs (by simp[gc,Fr.keep,qap,qam,qae,PV.refs,qaG,gcH,qav,Obj.refs,PV.ren,Obj.ren,Heap.obj,Fr.ren,gh,zzd]))
        | (have e:fAt l nm day i (-1) l[i]=-1:=by simp[fAt,cAt, *]
           rw[e]at hs⊢;exact hc _ _ _ hs (by simp[gc,Fr.keep,qap,qam,qae,PV.refs,qaG,gcH,qav,Obj.refs,PV.ren,Obj.ren,Heap.obj,Fr.ren,gh,zzd]))
    · have hj1:j<l.length:=by omega
      have hj2:(j:Int)<l.length:=by omega
      have hg:l[j]? = some l[j]:=zze hj1
      simp[qot,h1,hi,↓qcp,↓qb7,↓qcN,↓qbY,qb9,↓qb1,↓qb0,↓qcd,↓qcm,qbr,AA,AP,qaE,qa8,chg,qbj,runs,qa6,qbg,PV.refs,IOp.okD,Nat.testBit];repeat' (refine qaX (λh=>?_) (λh=>?_)<;>(try simp at h)<;>(try simp[h,h3,hj1,hj2,↓qcq,↓qb7,↓qcN,↓qbY,qb9,↓qb1,↓qdj,↓qb0,↓qcd,↓qcm,↓qc2,qbr,AA,AP,qaE,qa8,chg,qbj,runs,qa6,qbg,PV.refs,PV.AL,IOp.okD,Nat.testBit]))
      all_goals first
        | (have e:fAt l nm day i j l[i]=(i:Int):=by simp[fAt,cAt,frm, *]
           rw[e]at hs⊢;exact hc _ _ _ hs (by simp[gc,Fr.keep,qap,qam,qae,PV.refs,qaG,gcH,qav,Obj.refs,PV.ren,Obj.ren,Heap.obj,Fr.ren,gh,zzd]))
        | (have e:fAt l nm day i j l[i]=j:=by
             simp[fAt,cAt,frm, *];try omega
           rw[e]at hs⊢;exact hc _ _ _ hs (by simp[gc,Fr.keep,qap,qam,qae,PV.refs,qaG,gcH,qav,Obj.refs,PV.ren,Obj.ren,Heap.obj,Fr.ren,gh,zzd]))
def qRn(T:Tab)(hT:HU T)(l:CF Ak)(t:CG)(nm:Cv)(day:Int)(hn:l.length<=maxLen):T.val 30 [.l (K1 19) (l.map Ak.dv) t,.s nm,I day]=some (.t [.d ((atP l nm day).getD .zero).dv,.d (.b (atP l nm day).isSome)],false):=by
  rw[qab T (hT 30 F30 rfl) rfl];have lp:=λk fr H=>@qJW T l t nm day hn k fr H
  simp[F30,Fr.Aa];refine (lp _ _ _ (by simp[gc,Fr.keep,qap,qam,qae,PV.refs,qaG,gcH,qav,Obj.refs,PV.ren,Obj.ren,Heap.obj,Fr.ren,gh,zzd];rfl)).trans ?_
  have hb:=qFe l nm day
  unfold atP;generalize bst l nm day=b at hb⊢;rcases hb with rfl|⟨j,rfl,hj⟩
  · simp
    try rfl
  · have hj2:(j:Int)<l.length:=by omega
    have hg:l[j]? = some l[j]:=zze hj
    simp[hj,hj2];repeat' (refine qaX (λh=>?_) (λh=>?_)<;>(try simp at h)<;>(try simp[h,hj,hj2]))
def qcS(b:Ap)(id day:Int):CE Ak:=match qcL b id with|some a=>atP b.Bh.l a.Co day|none=>none
def qC6(T:Tab)(hT:HU T)(b:Ap)(id day:Int)(hb:b.ok):T.val 24 [b.dv,I id,I day]=some (.t [.d ((qcS b id day).getD .zero).dv,.d (.b (qcS b id day).isSome)],false):=by
 rw[qab T (hT 24 F24 rfl) rfl];have e1:=qof T hT b id hb
 have e2:=λnm=>qRn T hT b.Bh.l b.Bh.t nm day (hb.2.2.2.2.1).1
 unfold qcS;cases hf:qcL b id with
 |none=>
  rw[hf]at e1;simp only[Option.getD_none,Option.isSome_none]at e1;simp[F24,Fr.Aa,e1];try rfl
 |some a=>
  rw[hf]at e1;simp only[zzA,Option.isSome_some]at e1;simp[F24,Fr.Aa,e1,e2]
def w64(n:Int):Int:=IntKind.i64.wrap n
def qeS(b:Ap)(id day:Int):Int×Int:=match qcL b id,qcS b id day with
 |some a,some p=>(w64 (-(w64 (p.BK+a.Extra))),0)
 |_,_=>(0,11)
def qDo(T:Tab)(hT:HU T)(b:Ap)(id day:Int)(hb:b.ok):T.val 719 [b.dv,I id,I day]=some (.t [.d (I (qeS b id day).1),.d (I (qeS b id day).2)],false):=by
 rw[qab T (hT 719 qiL rfl) rfl];have e1:=qof T hT b id hb
 have e2:=qC6 T hT b id day hb
 unfold qeS;cases hf:qcL b id with
 |none=>
  rw[hf]at e1;simp only[Option.getD_none,Option.isSome_none]at e1;simp[qiL,Fr.Aa,e1,e2]
 |some a=>
  rw[hf]at e1;simp only[zzA,Option.isSome_some]at e1;cases hp:qcS b id day with
  |none=>
   rw[hp]at e2;simp only[Option.getD_none,Option.isSome_none]at e2;simp[qiL,Fr.Aa,e1,e2]
  |some p=>
   rw[hp]at e2;simp only[zzA,Option.isSome_some]at e2;simp[qiL,Fr.Aa,e1,e2,w64]
def qeq(acc day:Int)(_:Nat)(n:Int)(h:Av):Int:=if (h.Ai==acc&&(decide (h.From<=day)&&decide (day<=h.To)))=true then w64 (n+h.Amount)else n
def qev(l:CF Av)(acc day:Int):Int:=qaj (qeq acc day) 0 0 l
def qKa(T:Tab)(l:CF Av)(t:CG)(acc day:Int)(hn:l.length<=maxLen){k:KC (PV×CG)}{fr:Fr}{H:CP}(h0:gc [1,2,7,10,11,12] 0 ⟨fr,H⟩=⟨[(12,(.d (I (0:Int)))),(11,(.d (I l.length))),(10,(.d (.l (K1 6) (l.map Av.dv) t))),(7,(.d (I 0))),(2,(.d (I day))),(1,(.d (I acc)))],[]⟩) :
    kC T.env 0 fr H (.h (.loop [1,2,7,10,11,12] qrp,k))=k (.exit 0) [(13,.d (.b false)),(12,(.d (I (l.length:Int)))),(11,(.d (I l.length))),(10,(.d (.l (K1 6) (l.map Av.dv) t))),(7,(.d (I (qaj (qeq acc day) 0 0 l)))),(2,(.d (I day))),(1,(.d (I acc)))] []:=by
  rw[qbi l (λi (b:Int)=>⟨[(12,(.d (I (i:Int)))),(11,(.d (I l.length))),(10,(.d (.l (K1 6) (l.map Av.dv) t))),(7,(.d (I b))),(2,(.d (I day))),(1,(.d (I acc)))],[]⟩) (λ_ _=>True) (λi b x c=>c (qeq acc day i b x)) (λb=>k (.exit 0) [(13,.d (.b false)),(12,(.d (I (l.length:Int)))),(11,(.d (I l.length))),(10,(.d (.l (K1 6) (l.map Av.dv) t))),(7,(.d (I b))),(2,(.d (I day))),(1,(.d (I acc)))] []) ?_ ?_ h0 trivial]
  · rw[qdb (qeq acc day) _ _ (λ_ _ _ _=>rfl)]
  · intro B _ b _
    simp[qrp]
  · intro B _ i b hi _ c hc
    have hm:=mxl
    have h1:(i:Int)<l.length:=by omega
    have h3:=wr1 (i:=i) (by omega)
    simp[qrp,h1,hi];repeat' (refine qaX (λh=>?_) (λh=>?_)<;>(try simp at h)<;>(try simp[h,h3]))
    all_goals first
      | (have e:(qeq acc day) i b l[i]=w64 (b+l[i].Amount):=by
           simp[qeq,w64, *];try (intros;omega)
         rw[e];exact hc _ _ _ trivial (by simp[gc,Fr.keep,qap,qam,qae,PV.refs,gcH,PV.ren,Obj.ren,Heap.obj,Fr.ren,gh];try rfl))
      | (have e:(qeq acc day) i b l[i]=b:=by
           simp[qeq,w64, *];try (intros;omega)
         rw[e];exact hc _ _ _ trivial (by simp[gc,Fr.keep,qap,qam,qae,PV.refs,gcH,PV.ren,Obj.ren,Heap.obj,Fr.ren,gh];try rfl))
def qDn(T:Tab)(hT:HU T)(l:CF Av)(t:CG)(acc day:Int)(hn:l.length<=maxLen):T.val 716 [.l (K1 6) (l.map Av.dv) t,I acc,I day]=some (.d (I (qev l acc day)),false):=by
  rw[qab T (hT 716 F716 rfl) rfl];simp[F716,Fr.Aa];refine (qKa T l t acc day hn (by simp[gc,Fr.keep,qap,qam,qae,PV.refs,gcH,PV.ren,Obj.ren,Heap.obj,Fr.ren,gh])).trans ?_
  simp[qev]
end
section
attribute [local simp ↓] qgU qgS qgJ qgT qgG qgL qgH qgI sqK blK lpK qgZ qgX qgV qgY qgW qgz qgB qhC qga qf8 qf9 qgd qfC qfD qfn qfq qfB qfF qfp qfG qfv qfx qfy qfz qfE qfA qfo qfr qeK qfs qfw qf6 qf3 qfJ qfI qfR qfK qcZ qdA qfL qfM qg1 qeX qg0 qhz qe8 qfY qfZ qfS qfU qfT qeM qf7 qeN qfO qf2 qfW qfV qfQ qfP qf1 qf4 qfN qf0 qgA qeL qe7 qgq qe4 qb4 qgr qeO qeP qf5 qcs qhx qft qgb qgc qg5 qhA qg2 qgM qgN qgO qgP qgQ qgR qfu qgp qh0 qiZ qi0 qiX qiY qiV qhX qi4 qi1 qjA qi2 qjU
attribute [local simp] qck qg7 qg9 qgv qgw qgl qgm qhv qhw qgs qgt rd IOp.adds qao gh nid rgK rdS qgx qgy qhd qhe qhj qhk qhn qhi qhm qhl qfh qff qfg qhh qhg qgo qgn qhp qho qhq qhr qia qh8 qic qib qim qdk qiq qjL qjk qjK qjJ
def qbs(acc day:Int)(x:Aq):CG:=x.Ai==acc&&(decide (x.From<=day)&&decide (day<=x.To))
def qai(k:K):Ct->PV
  |[]=>.d (.l k [] true)
  |_x::r=>.r 0 k 0 (r.length+1) false
def qar(k:K):Ct->CP
  |[]=>[]
  |x::r=>[some (.sl k 0 (x::r))]
def qKg(T:Tab)(l:CF Aq)(t:CG)(acc day:Int)(hn:l.length<=100000){k:KC (PV×CG)}{fr:Fr}{H:CP}
    (hk:∀(out:CF Aq),out.length<=l.length->k (.exit 0) ((13,.d (.b false))::[(12,(.d (I (l.length:Int)))),(11,(.d (I l.length))),(10,(.d (.l (K1 7) (l.map Aq.dv) t))),(7,(qai (K1 7) (out.map Aq.dv))),(2,(.d (I day))),(1,(.d (I acc)))]) (qar (K1 7) (out.map Aq.dv))=some (.d (.l (K1 7) (out.map Aq.dv) false),true))
    (h0:gc [1,2,7,10,11,12] 0 ⟨fr,H⟩=⟨[(12,(.d (I (0:Int)))),(11,(.d (I l.length))),(10,(.d (.l (K1 7) (l.map Aq.dv) t))),(7,(qai (K1 7) [])),(2,(.d (I day))),(1,(.d (I acc)))],qar (K1 7) []⟩) :
    kC T.env 0 fr H (.h (.loop [1,2,7,10,11,12] qmM,k))=some (.d (.l (K1 7) ((l.filter (qbs acc day)).map Aq.dv) false),true):=by
  have hm:=mxl
  rw[qbi l (λi (out:CF Aq)=>⟨[(12,(.d (I (i:Int)))),(11,(.d (I l.length))),(10,(.d (.l (K1 7) (l.map Aq.dv) t))),(7,(qai (K1 7) (out.map Aq.dv))),(2,(.d (I day))),(1,(.d (I acc)))],qar (K1 7) (out.map Aq.dv)⟩) (λi out=>out.length<=i) (λi out x c=>c (if qbs acc day x=true then out++[x]else out)) (λout=>if out.length<=l.length then some (.d (.l (K1 7) (out.map Aq.dv) false),true)else k (.exit 0) ((13,.d (.b false))::[(12,(.d (I (l.length:Int)))),(11,(.d (I l.length))),(10,(.d (.l (K1 7) (l.map Aq.dv) t))),(7,(qai (K1 7) (out.map Aq.dv))),(2,(.d (I day))),(1,(.d (I acc)))]) (qar (K1 7) (out.map Aq.dv))) ?_ ?_ (b0:=[]) h0 (zzt _)]
  · rw[qdb (λ_ out x=>if qbs acc day x=true then out++[x]else out) _ _ (λ_ _ _ _=>rfl)]
    have key:∀(l:CF Aq) (i:Nat) (out:CF Aq),qaj (λ_ out x=>if qbs acc day x=true then out++[x]else out) i out l=out++l.filter (qbs acc day):=by
      intro l;induction l with
      |nil=>intro i out;simp[qaj]
      |cons x l ih=>intro i out;rw[qaj,ih,List.filter_cons];split<;>simp
    rw[key,List.nil_append,if_pos (List.length_filter_le _ _)]
  · intro B _ out ho
    rw[if_pos ho,<-hk out ho];have h1:¬((l.length:Int)<l.length):=by omega
    cases out with
    |nil=>simp[qmM,qai,qar]
    |cons x out=>simp[qmM,qai,qar]
  · intro B _ i out hi ho c hc
    have h1:(i:Int)<l.length:=by omega
    have h3:=wr1 (i:=i) (by omega)
    have hs:(if qbs acc day l[i]=true then out++[l[i]]else out).length<=i+1:=by
      split
      · simp only[zzp,zzn,List.length_nil];omega
      · omega
    have h4:(out.length+1)*64<=2^47:=by omega
    have h4':(out.length+1)*64<=140737488355328:=by omega
    cases out with
    |nil=>
      simp[qmM,h1,hi,qai,qar];repeat' (refine qaX (λh=>?_) (λh=>?_)<;>(try simp at h)<;>(try simp[h,h3]))
      all_goals first
        | (have e:(if qbs acc day l[i]=true then [l[i]]else [])=[l[i]]:=by simp[qbs, *]
           rw[e];exact hc _ _ _ (by simp) (by simp[gc,Fr.keep,qap,qam,qae,PV.refs,qaG,gcH,qav,Obj.refs,PV.ren,Obj.ren,Heap.obj,Fr.ren,gh,zzd,qai,qar]))
        | (have e:(if qbs acc day l[i]=true then [l[i]]else [])=[]:=by
             simp[qbs, *];try omega
           rw[e];exact hc _ _ _ (by simp) (by simp[gc,Fr.keep,qap,qam,qae,PV.refs,gcH,PV.ren,Obj.ren,Heap.obj,Fr.ren,gh,qai,qar]))
    |cons x out=>
      have h5:(out.length+1+1)*64<=140737488355328:=by simpa using h4'
      have ht:(out.map Aq.dv).take out.length=out.map Aq.dv:=zzv (by simp)
      simp only[zzn]at ho;simp[qmM,h1,hi,qai,qar];repeat' (refine qaX (λh=>?_) (λh=>?_)<;>(try simp at h)<;>(try simp[h,h3,h5]))
      all_goals first
        | (have e:(if qbs acc day l[i]=true then x::(out++[l[i]])else x::out)=x::(out++[l[i]]):=by simp[qbs, *]
           rw[e];exact hc _ _ _ (by simp;omega) (by simp[gc,Fr.keep,qap,qam,qae,PV.refs,qaG,gcH,qav,Obj.refs,PV.ren,Obj.ren,Heap.obj,Fr.ren,gh,zzd,qai,qar,ht]))
        | (have e:(if qbs acc day l[i]=true then x::(out++[l[i]])else x::out)=x::out:=by
             simp[qbs, *];try omega
           rw[e];exact hc _ _ _ (by simp;omega) (by simp[gc,Fr.keep,qap,qam,qae,PV.refs,qaG,gcH,qav,Obj.refs,PV.ren,Obj.ren,Heap.obj,Fr.ren,gh,zzd,qai,qar]))
def qDs(T:Tab)(hT:HU T)(l:CF Aq)(t:CG)(acc day:Int)(hn:l.length<=100000):T.val 803 [.l (K1 7) (l.map Aq.dv) t,I acc,I day]=some (.d (.l (K1 7) ((l.filter (qbs acc day)).map Aq.dv) false),true):=by
  rw[qab T (hT 803 F803 rfl) rfl];simp[F803,Fr.Aa];refine qKg T l t acc day hn (λout ho=>?_) (by simp[gc,Fr.keep,qap,qam,qae,PV.refs,gcH,PV.ren,Obj.ren,Heap.obj,Fr.ren,gh,qai,qar])
  cases out with
  |nil=>simp[qai,qar]
  |cons x out=>
    have ht:(out.map Aq.dv).take out.length=out.map Aq.dv:=zzv (by simp)
    simp[qai,qar,ht]
def qna(x:Aq):DV:=if x.Kind=1 then .ifc 165 (.a [])else if x.Kind=2 then .ifc 166 (.a [])else if x.Kind=3 then .ifc 167 (.a [])else if x.Kind=4 then .ifc 107 (.a [I x.Amount])else .ifc 168 (.a [])
def qDt(T:Tab)(hT:HU T)(x:Aq):T.val 804 [x.dv]=some (.d (qna x),false):=by
  rw[qab T (hT 804 qmj rfl) rfl];simp[qmj,Fr.Aa];repeat' (refine qaX (λh=>?_) (λh=>?_)<;>(try simp at h)<;>(try simp[h,↓qay,↓qaC,↓qaB,putAt,mkA,qaf,qau,qaw]))
  all_goals simp_all[qna]
def qer(_:Nat)(n:Int)(x:Aq):Int:=if (x.Kind==4)=true then w64 (n+x.Amount)else n
def qeB(l:CF Aq)(acc day:Int):Int:=qaj qer 0 0 (l.filter (qbs acc day))
def qFR(x:Aq):∃u v,qna x=.ifc u v/\((u=107/\v=.a [I x.Amount]/\x.Kind=4)\/(u≠107/\x.Kind≠4)):=by
  unfold qna;by_cases h1:x.Kind=1
  · exact⟨165,.a [],by rw[if_pos h1],.inr ⟨by decide,by omega⟩⟩
  by_cases h2:x.Kind=2
  · exact⟨166,.a [],by rw[if_neg h1,if_pos h2],.inr ⟨by decide,by omega⟩⟩
  by_cases h3:x.Kind=3
  · exact⟨167,.a [],by rw[if_neg h1,if_neg h2,if_pos h3],.inr ⟨by decide,by omega⟩⟩
  by_cases h4:x.Kind=4
  · exact⟨107,_,by rw[if_neg h1,if_neg h2,if_neg h3,if_pos h4],.inl ⟨rfl,rfl,h4⟩⟩
  · exact⟨168,.a [],by rw[if_neg h1,if_neg h2,if_neg h3,if_neg h4],.inr ⟨by decide,h4⟩⟩
def qKb(T:Tab)(l:CF Aq)(t:CG)(hT:HU T)(hn:l.length<=maxLen){k:KC (PV×CG)}{fr:Fr}{H:CP}(h0:gc [7,15,16,17] 0 ⟨fr,H⟩=⟨[(17,(.d (I (0:Int)))),(16,(.d (I l.length))),(15,(.d (.l (K1 7) (l.map Aq.dv) t))),(7,(.d (I 0)))],[]⟩) :
    kC T.env 0 fr H (.h (.loop [7,15,16,17] qoA,k))=k (.exit 0) [(18,.d (.b false)),(17,(.d (I (l.length:Int)))),(16,(.d (I l.length))),(15,(.d (.l (K1 7) (l.map Aq.dv) t))),(7,(.d (I (qaj (qer) 0 0 l))))] []:=by
  rw[qbi l (λi (b:Int)=>⟨[(17,(.d (I (i:Int)))),(16,(.d (I l.length))),(15,(.d (.l (K1 7) (l.map Aq.dv) t))),(7,(.d (I b)))],[]⟩) (λ_ _=>True) (λi b x c=>c (qer i b x)) (λb=>k (.exit 0) [(18,.d (.b false)),(17,(.d (I (l.length:Int)))),(16,(.d (I l.length))),(15,(.d (.l (K1 7) (l.map Aq.dv) t))),(7,(.d (I b)))] []) ?_ ?_ h0 trivial]
  · rw[qdb (qer) _ _ (λ_ _ _ _=>rfl)]
  · intro B _ b _
    simp[qoA]
  · intro B _ i b hi _ c hc
    have hm:=mxl
    have h1:(i:Int)<l.length:=by omega
    have h3:=wr1 (i:=i) (by omega)
    have hv:=qDt T hT l[i]
    obtain⟨u,v,hc1,⟨rfl,rfl,hk⟩|⟨hu,hk⟩⟩:=qFR l[i]
    · rw[hc1]at hv
      have e:qer i b l[i]=w64 (b+l[i].Amount):=by simp[qer,hk]
      simp[qoA,h1,hi,hv];rw[e];exact hc _ _ _ trivial (by simp[gc,Fr.keep,qap,qam,qae,PV.refs,gcH,PV.ren,Obj.ren,Heap.obj,Fr.ren,gh,h3,w64])
    · rw[hc1]at hv
      have e:qer i b l[i]=b:=by simp[qer,hk]
      simp[qoA,h1,hi,h3,hv,hu];rw[e];exact hc _ _ _ trivial (by simp[gc,Fr.keep,qap,qam,qae,PV.refs,gcH,PV.ren,Obj.ren,Heap.obj,Fr.ren,gh])
def qDp(T:Tab)(hT:HU T)(l:CF Aq)(t:CG)(acc day:Int)(hn:l.length<=100000):T.val 720 [.l (K1 7) (l.map Aq.dv) t,I acc,I day]=some (.d (I (qeB l acc day)),false):=by
  rw[qab T (hT 720 F720 rfl) rfl];have e:=qDs T hT l t acc day hn
  have hl:(l.filter (qbs acc day)).length<=maxLen:=by
    have:=List.length_filter_le (qbs acc day) l
    have hm:=mxl
    omega
  simp[F720,Fr.Aa,e];refine (qKb T (l.filter (qbs acc day)) false hT hl (by simp[gc,Fr.keep,qap,qam,qae,PV.refs,gcH,PV.ren,Obj.ren,Heap.obj,Fr.ren,gh])).trans ?_
  simp[qeB]
end
section
attribute [local simp ↓] qgU qgS qgJ qgT qgG qgL qgH qgI sqK blK lpK qgZ qgX qgV qgY qgW qgz qgB qhC qga qf8 qf9 qgd qfC qfD qfn qfq qfB qfF qfp qfG qfv qfx qfy qfz qfE qfA qfo qfr qeK qfs qfw qf6 qf3 qfJ qfI qfR qfK qcZ qdA qfL qfM qg1 qeX qg0 qhz qe8 qfY qfZ qfS qfU qfT qeM qf7 qeN qfO qf2 qfW qfV qfQ qfP qf1 qf4 qfN qf0 qgA qeL qe7 qgq qe4 qb4 qgr qeO qeP qf5 qcs qhx qft qgb qgc qg5 qhA qg2 qgM qgN qgO qgP qgQ qgR qfu qgp qh0 qiZ qi0 qiX qiY qiV qhX qi4 qi1 qjA qi2 qjU qkA qfX
attribute [local simp] qck qg7 qg9 qgv qgw qgl qgm qhv qhw qgs qgt rd IOp.adds qao gh nid rgK rdS qgx qgy qhd qhe qhj qhk qhn qhi qhm qhl qfh qff qfg qhh qhg qgo qgn qhp qho qhq qhr qia qh8 qic qib qim qdk qiq qjL qjk qjK qjJ
def qcv(acc:Int)(_:Nat)(n:Int)(x:Ac):Int:=if (x.Ai==acc)=true then w64 (n-x.Amount)else n
def qjC(acc:Int)(e:Af):Int:=qaj (qcv acc) 0 0 e.Ad.l
def qh7(acc:Int)(_:Nat)(n:Int)(x:Ac):Int:=if (x.Ai==acc)=true then w64 (n+x.Amount)else n
def qvz(acc:Int)(e:Af):Int:=qaj (qh7 acc) 0 0 e.Ad.l
def qjh(acc:Int)(_:Nat)(n:Int)(e:Af):Int:=w64 (n+qjC acc e)
def ofR(j:CF Af)(acc:Int):Int:=qaj (qjh acc) 0 0 j
def qo3(e:Af):CG:=e.Auth==0&&(e.Kind==2||e.Kind==3||e.Kind==9||e.Kind==14)
def qSA(T:Tab)(hT:HU T)(e:Af):T.val 949 [e.dv]=some (.d (.b (qo3 e)),false):=by
  rw[qab T (hT 949 qmy rfl) rfl];simp[qmy,Fr.Aa];repeat' (refine qaX (λh=>?_) (λh=>?_)<;>(try simp at h)<;>(try simp[h]))
  all_goals simp_all[qo3]
def qKk(T:Tab)(l:CF Af)(t:CG)(acc frm upto:Int)(oi s:Int)(e:Af)(hn:e.Ad.l.length<=maxLen){k:KC (PV×CG)}{fr:Fr}{H:CP}(h0:gc [1,2,3,9,12,16,17,18,38,39,40] 0 ⟨fr,H⟩=⟨[(40,(.d (I (0:Int)))),(39,(.d (I e.Ad.l.length))),(38,(.d (.l (K1 3) (e.Ad.l.map Ac.dv) e.Ad.t))),(18,(.d (I oi))),(17,(.d (I l.length))),(16,(.d (.l (K1 10) (l.map Af.dv) t))),(12,(.d (I 0))),(9,(.d (I s))),(3,(.d (I upto))),(2,(.d (I frm))),(1,(.d (I acc)))],[]⟩) :
    kC T.env 0 fr H (.h (.loop [1,2,3,9,12,16,17,18,38,39,40] qrx,k))=k (.exit 2) [(41,.d (.b false)),(40,(.d (I (e.Ad.l.length:Int)))),(39,(.d (I e.Ad.l.length))),(38,(.d (.l (K1 3) (e.Ad.l.map Ac.dv) e.Ad.t))),(18,(.d (I oi))),(17,(.d (I l.length))),(16,(.d (.l (K1 10) (l.map Af.dv) t))),(12,(.d (I (qaj (qh7 acc) 0 0 e.Ad.l)))),(9,(.d (I s))),(3,(.d (I upto))),(2,(.d (I frm))),(1,(.d (I acc)))] []:=by
  rw[qbi e.Ad.l (λi (b:Int)=>⟨[(40,(.d (I (i:Int)))),(39,(.d (I e.Ad.l.length))),(38,(.d (.l (K1 3) (e.Ad.l.map Ac.dv) e.Ad.t))),(18,(.d (I oi))),(17,(.d (I l.length))),(16,(.d (.l (K1 10) (l.map Af.dv) t))),(12,(.d (I b))),(9,(.d (I s))),(3,(.d (I upto))),(2,(.d (I frm))),(1,(.d (I acc)))],[]⟩) (λ_ _=>True) (λi b x c=>c (qh7 acc i b x)) (λb=>k (.exit 2) [(41,.d (.b false)),(40,(.d (I (e.Ad.l.length:Int)))),(39,(.d (I e.Ad.l.length))),(38,(.d (.l (K1 3) (e.Ad.l.map Ac.dv) e.Ad.t))),(18,(.d (I oi))),(17,(.d (I l.length))),(16,(.d (.l (K1 10) (l.map Af.dv) t))),(12,(.d (I b))),(9,(.d (I s))),(3,(.d (I upto))),(2,(.d (I frm))),(1,(.d (I acc)))] []) ?_ ?_ h0 trivial]
  · rw[qdb (qh7 acc) _ _ (λ_ _ _ _=>rfl)]
  · intro B _ b _
    simp[qrx]
  · intro B _ i b hi _ c hc
    have hm:=mxl
    have h1:(i:Int)<e.Ad.l.length:=by omega
    have h3:=wr1 (i:=i) (by omega)
    simp[qrx,h1,hi];repeat' (refine qaX (λh=>?_) (λh=>?_)<;>(try simp at h)<;>(try simp[h3]))
    all_goals first
      | (have e:(qh7 acc) i b e.Ad.l[i]=w64 (b+e.Ad.l[i].Amount):=by
           simp[qh7,w64, *];try (intros;omega)
         rw[e];exact hc _ _ _ trivial (by simp[gc,Fr.keep,qap,qam,qae,PV.refs,gcH,PV.ren,Obj.ren,Heap.obj,Fr.ren,gh];try rfl))
      | (have e:(qh7 acc) i b e.Ad.l[i]=b:=by
           simp[qh7, *];try (intros;omega)
         rw[e];exact hc _ _ _ trivial (by simp[gc,Fr.keep,qap,qam,qae,PV.refs,gcH,PV.ren,Obj.ren,Heap.obj,Fr.ren,gh];try rfl))
def qsY(frm upto:Int)(e:Af):CG:=qo3 e&&(decide (frm<=e.AU)&&decide (e.AU<=upto))
def fSp(acc frm upto:Int)(_:Nat)(n:Int)(e:Af):Int:=if qsY frm upto e=true then w64 (n+max 0 (qvz acc e))else n
def qCB(j:CF Af)(acc frm upto:Int):Int:=qaj (fSp acc frm upto) 0 0 j
def qKl(T:Tab)(hT:HU T)(l:CF Af)(t:CG)(acc frm upto:Int)(hn:l.length<=maxLen)(ho:∀e∈l,e.ok){k:KC (PV×CG)}{fr:Fr}{H:CP}(h0:gc [1,2,3,9,16,17,18] 0 ⟨fr,H⟩=⟨[(18,(.d (I (0:Int)))),(17,(.d (I l.length))),(16,(.d (.l (K1 10) (l.map Af.dv) t))),(9,(.d (I 0))),(3,(.d (I upto))),(2,(.d (I frm))),(1,(.d (I acc)))],[]⟩) :
    kC T.env 0 fr H (.h (.loop [1,2,3,9,16,17,18] qoF,k))=k (.exit 0) [(19,.d (.b false)),(18,(.d (I (l.length:Int)))),(17,(.d (I l.length))),(16,(.d (.l (K1 10) (l.map Af.dv) t))),(9,(.d (I (qaj (fSp acc frm upto) 0 0 l)))),(3,(.d (I upto))),(2,(.d (I frm))),(1,(.d (I acc)))] []:=by
  rw[qbi l (λi (b:Int)=>⟨[(18,(.d (I (i:Int)))),(17,(.d (I l.length))),(16,(.d (.l (K1 10) (l.map Af.dv) t))),(9,(.d (I b))),(3,(.d (I upto))),(2,(.d (I frm))),(1,(.d (I acc)))],[]⟩) (λ_ _=>True) (λi b x c=>c (fSp acc frm upto i b x)) (λb=>k (.exit 0) [(19,.d (.b false)),(18,(.d (I (l.length:Int)))),(17,(.d (I l.length))),(16,(.d (.l (K1 10) (l.map Af.dv) t))),(9,(.d (I b))),(3,(.d (I upto))),(2,(.d (I frm))),(1,(.d (I acc)))] []) ?_ ?_ h0 trivial]
  · rw[qdb (fSp acc frm upto) _ _ (λ_ _ _ _=>rfl)]
  · intro B _ b _
    simp[qoF]
  · intro B _ i b hi _ c hc
    have hm:=mxl
    have h1:(i:Int)<l.length:=by omega
    have h3:=wr1 (i:=i) (by omega)
    have hv:=qSA T hT l[i]
    have hl:l[i].Ad.l.length<=maxLen:=((ho _ (zzs hi)).2.2.2.2.2.2.2.2.1).1
    obtain⟨q,hq⟩:∃q,qo3 l[i]=q:=⟨_,rfl⟩;rw[hq]at hv;simp[qoF,h1,hi,hv];repeat' (refine qaX (λh=>?_) (λh=>?_)<;>(try simp at h)<;>(try simp[h,h3]))
    all_goals try
      ((have e:(fSp acc frm upto) i b l[i]=b:=by
           simp[fSp,qsY, *];try (intros;omega)
           done)
       rw[e];exact hc _ _ _ trivial (by simp[gc,Fr.keep,qap,qam,qae,PV.refs,gcH,PV.ren,Obj.ren,Heap.obj,Fr.ren,gh];try rfl))
    have e:(fSp acc frm upto) i b l[i]=w64 (b+max 0 (qvz acc l[i])):=by
      simp[fSp,qsY, *]
    rw[e];have hl2:=λk fr H=>@qKk T l t acc frm upto i b l[i] hl k fr H
    rw[hl2]
    · simp[h3]
      exact hc _ _ _ trivial (by simp[gc,Fr.keep,qap,qam,qae,PV.refs,gcH,PV.ren,Obj.ren,Heap.obj,Fr.ren,gh,qvz,w64])
    · simp[gc,Fr.keep,qap,qam,qae,PV.refs,gcH,PV.ren,Obj.ren,Heap.obj,Fr.ren,gh]
def qSq(T:Tab)(hT:HU T)(b:Ap)(hb:b.ok)(acc frm upto:Int):T.val 918 [b.dv,I acc,I frm,I upto]=some (.d (I (qCB b.Ar.l acc frm upto)),false):=by
  rw[qab T (hT 918 F918 rfl) rfl];simp[F918,Fr.Aa];refine (qKl T hT b.Ar.l b.Ar.t acc frm upto (hb.2.2.2.2.2.2.1).1 (hb.2.2.2.2.2.2.1).2 (by simp[gc,Fr.keep,qap,qam,qae,PV.refs,gcH,PV.ren,Obj.ren,Heap.obj,Fr.ren,gh])).trans ?_
  simp[qCB]
mutual
def qaN:DV->Int->Int
 |.a [_,_,_,.l _ es _],m=>qbO es 1 m
 |_,_=>1
def qbO:Ct->Int->Int->Int
 |[],n,_=>n
 |e::es,n,m=>if n<=m then qbO es (n+qaN e (m-n)) m else n
end
mutual
def qo2:∀(e:DV) (m:Int),0<=m->1<=qaN e m/\qaN e m<=m+1
 |.a [_,_,_,.l _ es _],m,h=>by
  unfold qaN;exact qxh es 1 m (by omega) (by omega)
 |.a [],m,h=>by unfold qaN;omega
 |.a [_],m,h=>by unfold qaN;omega
 |.a [_,_],m,h=>by unfold qaN;omega
 |.a [_,_,_],m,h=>by unfold qaN;omega
 |.a (_::_::_::.b _::_),m,h=>by unfold qaN;omega
 |.a (_::_::_::.i _ _::_),m,h=>by unfold qaN;omega
 |.a (_::_::_::.s _::_),m,h=>by unfold qaN;omega
 |.a (_::_::_::.a _::_),m,h=>by unfold qaN;omega
 |.a (_::_::_::.np::_),m,h=>by unfold qaN;omega
 |.a (_::_::_::.nf::_),m,h=>by unfold qaN;omega
 |.a (_::_::_::.ni::_),m,h=>by unfold qaN;omega
 |.a (_::_::_::.nm::_),m,h=>by unfold qaN;omega
 |.a (_::_::_::.ifc _ _::_),m,h=>by unfold qaN;omega
 |.a (_::_::_::.tok _::_),m,h=>by unfold qaN;omega
 |.a (_::_::_::.l _ _ _::_::_),m,h=>by unfold qaN;omega
 |.b _,m,h=>by unfold qaN;omega
 |.i _ _,m,h=>by unfold qaN;omega
 |.s _,m,h=>by unfold qaN;omega
 |.l _ _ _,m,h=>by unfold qaN;omega
 |.np,m,h=>by unfold qaN;omega
 |.nf,m,h=>by unfold qaN;omega
 |.ni,m,h=>by unfold qaN;omega
 |.nm,m,h=>by unfold qaN;omega
 |.ifc _ _,m,h=>by unfold qaN;omega
 |.tok _,m,h=>by unfold qaN;omega
def qxh:∀(es:Ct) (n m:Int),1<=n->n<=m+1->1<=qbO es n m/\qbO es n m<=m+1
 |[],n,m,h1,h2=>⟨h1,h2⟩
 |e::es,n,m,h1,h2=>by
  unfold qbO;split
  ·rename_i h
   have:=qo2 e (m-n) (by omega)
   exact qxh es _ m (by omega) (by omega)
  ·exact⟨h1,h2⟩
end
def qKq(T:Tab)(x:Ag)(l:CF Ag)(hl:x.A8.l=l.map Ag.dv)(m:Int)(hm0:0<=m)(hm1:m<=1000)(hn:l.length<=maxLen)(hv:∀y∈l,∀m',0<=m'->m'<=1000->T.val 950 [y.dv,I m']=some (.d (I (qaN y.dv m')),false)){k:KC (PV×CG)}{r:Int->Cz}{fr:Fr}{H:CP}
  (hk:∀(i:Nat) (n:Int),k (.exit 0) [(16,.d (.b false)),(6,.d (I i)),(5,.d (I n)),(2,.p 0 0 0),(1,.d (I m))] [some (.box (K1 4) (.d x.dv))]=r n)
  (h0:gc [1,2,5,6] 0 ⟨fr,H⟩=⟨[(6,.d (I 0)),(5,.d (I 1)),(2,.p 0 0 0),(1,.d (I m))],[some (.box (K1 4) (.d x.dv))]⟩) :
  kC T.env 0 fr H (.h (.loop [1,2,5,6] qrA,k))=r (qbO x.A8.l 1 m):=by
 have hm:=mxl
 rw[qbi l (λi (n:Int)=>⟨[(6,.d (I i)),(5,.d (I n)),(2,.p 0 0 0),(1,.d (I m))],[some (.box (K1 4) (.d x.dv))]⟩) (λ_ n=>1<=n/\n<=m+1) (λi n y c=>if n<=m then c (n+qaN y.dv (m-n))else r n) r ?_ ?_ h0 ⟨by omega,by omega⟩]
 ·have key:∀(es:CF Ag) (i:Nat) (n:Int),rounds (λi n y c=>if n<=m then c (n+qaN (Ag.dv y) (m-n))else r n) r i n es=r (qbO (es.map Ag.dv) n m):=by
   intro es;induction es with
   |nil=>intro i n;simp[rounds,qbO]
   |cons y es ih=>
    intro i n;rw[rounds,zzu,qbO];split
    ·exact ih _ _
    ·rfl
  rw[hl];exact key l 0 1
 ·intro B _ n _
  have:=hk l.length n
  simp[qrA,hl];exact this
 ·intro B _ i n hi hn1 c hc;have h1:(i:Int)<l.length:=by omega
  have h3:=wr1 (i:=i) (by omega)
  have h4:IntKind.i64.wrap (m-n)=m-n:=wrI (by omega) (by omega)
  simp[qrA,h1,hl];refine qaX (λh=>?_) (λh=>?_)
  ·simp at h;have hb:=qo2 l[i].dv (m-n) (by omega)
   have h5:IntKind.i64.wrap (n+qaN l[i].dv (m-n))=n+qaN l[i].dv (m-n):=wrI (by omega) (by omega)
   have hw:=hv l[i] (zzs hi) (m-n) (by omega) (by omega)
   simp[h,h1,hi,h3,h4,h5,hw,hl];exact hc _ _ _ ⟨by omega,by omega⟩ (by simp[gc,Fr.keep,qap,qam,qae,PV.refs,qaG,gcH,qav,Obj.refs,PV.ren,Obj.ren,Heap.obj,Fr.ren,gh,zzd])
  ·simp at h;have h':¬n<=m:=by omega
   simp[h'];exact hk i n
def qDv(T:Tab)(hT:HU T):∀(n:Nat) (x:Ag),SizeOf.sizeOf x.dv<n->x.ok->∀m,0<=m->m<=1000->T.val 950 [x.dv,I m]=some (.d (I (qaN x.dv m)),false)
 |0,_,h,_,_,_,_=>absurd h (zzm _)
 |n+1,x,hs,hx,m,h0,h1=>by
  obtain⟨hlen,l,hl,hlo⟩:=qrN hx.2.2.2;rw[qab T (hT 950 F950 rfl) rfl];have hn:l.length<=maxLen:=by rw[hl]at hlen;simpa using hlen
  have lp:=λk r fr H=>@qKq T x l hl m h0 h1 hn (λy hy=>qDv T hT n y (by have:=qrL (x:=x) (a:=y) (by rw[hl];exact List.mem_map_of_mem hy);omega) (hlo _ hy)) k r fr H
  simp[F950,Fr.Aa];refine (lp _ (λn=>some (.d (I n),false)) _ _ (λi n=>?_) (by simp[gc,Fr.keep,qap,qam,qae,PV.refs,qaG,gcH,qav,Obj.refs,PV.ren,Obj.ren,Heap.obj,Fr.ren,gh,zzd])).trans ?_
  ·simp
  ·rfl
structure MvY (Y:Nat->List PV->Heap->Option (PV×Heap)) (σ:Type) (HS:σ->Heap) (m o pj pa:Nat) (j:List Af) (t:Bool) (acc:Int) (P:σ->Prop) (f:σ->Af->Ac->σ):Prop where
 len:∀s,(HS s).length=m
 cl:∀s,Cl (HS s)
 oj:∀s J,Heap.obj (HS s++J) pj=some (.box K0 (.d (.l (K1 10) (j.map Af.dv) t)))
 oa:∀s J,Heap.obj (HS s++J) pa=some (.box K0 (.d (I acc)))
 lo:o<m/\pj<m/\pa<m
 hp:∀s e x,P s->e∈j->x∈e.Ad.l->P (f s e x)
 y:∀s e x,P s->e∈j->x∈e.Ad.l->x.Ai=acc->Y o [.d e.dv,.d (I x.Amount)] (HS s++[some (.box (K1 10) (.d e.dv)),some (.box (K1 3) (.d x.dv))])=some (.d (.b true),HS (f s e x)++[some (.box (K1 10) (.d e.dv)),some (.box (K1 3) (.d x.dv))])
def mvL{σ:Type}(acc:Int)(f:σ->Af->Ac->σ)(e:Af)(_:Nat)(s:σ)(x:Ac):σ:=if x.Ai=acc then f s e x else s
def mvE{σ:Type}(acc:Int)(f:σ->Af->Ac->σ)(_:Nat)(s:σ)(e:Af):σ:=qaj (mvL acc f e) 0 s e.Ad.l
section
variable {Y:Nat->Cu->CP->CB}{σ:Type}{HS:σ->CP}{m o pj pa:Nat}{j:CF Af}{t:CG}{acc:Int}{P:σ->Prop}{f:σ->Af->Ac->σ}
def qJ3(T:Tab)(h:MvY Y σ HS m o pj pa j t acc P f)(e:Af)(he:e∈j)(hn:e.Ad.l.length<=maxLen)(oi:Nat)(s0:σ)(hs0:P s0){k:KC (PV×CP)}{fr:Fr}{H:CP}
  (h0:gc [0,2,5,8,9,10,15,16,17] m ⟨fr,H⟩=⟨[(17,.d (I 0)),(16,.d (I e.Ad.l.length)),(15,.d (.l (K1 3) (e.Ad.l.map Ac.dv) e.Ad.t)),(10,.d (I oi)),(9,.d (I j.length)),(8,.d (.l (K1 10) (j.map Af.dv) t)),(5,.p m 0 0),(2,.p pa 0 0),(0,.h o)],HS s0++[some (.box (K1 10) (.d e.dv))]⟩) :
  kC (T.Bb Y) m fr H (.h (.loop [0,2,5,8,9,10,15,16,17] qrj,k))=k (.exit 2) [(18,.d (.b false)),(17,.d (I e.Ad.l.length)),(16,.d (I e.Ad.l.length)),(15,.d (.l (K1 3) (e.Ad.l.map Ac.dv) e.Ad.t)),(10,.d (I oi)),(9,.d (I j.length)),(8,.d (.l (K1 10) (j.map Af.dv) t)),(5,.p m 0 0),(2,.p pa 0 0),(0,.h o)] (HS (qaj (mvL acc f e) 0 s0 e.Ad.l)++[some (.box (K1 10) (.d e.dv))]):=by
 have hm:=mxl
 rw[qbi e.Ad.l (λi (s:σ)=>⟨[(17,.d (I i)),(16,.d (I e.Ad.l.length)),(15,.d (.l (K1 3) (e.Ad.l.map Ac.dv) e.Ad.t)),(10,.d (I oi)),(9,.d (I j.length)),(8,.d (.l (K1 10) (j.map Af.dv) t)),(5,.p m 0 0),(2,.p pa 0 0),(0,.h o)],HS s++[some (.box (K1 10) (.d e.dv))]⟩) (λ_ s=>P s) (λi s x c=>c (mvL acc f e i s x)) (λs=>k (.exit 2) [(18,.d (.b false)),(17,.d (I e.Ad.l.length)),(16,.d (I e.Ad.l.length)),(15,.d (.l (K1 3) (e.Ad.l.map Ac.dv) e.Ad.t)),(10,.d (I oi)),(9,.d (I j.length)),(8,.d (.l (K1 10) (j.map Af.dv) t)),(5,.p m 0 0),(2,.p pa 0 0),(0,.h o)] (HS s++[some (.box (K1 10) (.d e.dv))])) ?_ ?_ h0 hs0]
 ·rw[qdb (mvL acc f e) _ _ (λ_ _ _ _=>rfl)]
 ·intro B _ s _;simp[qrj]
 ·intro B _ i s hi hs c hc;have h1:(i:Int)<e.Ad.l.length:=by omega
  have h3:=wr1 (i:=i) (by omega)
  have hx:e.Ad.l[i]∈e.Ad.l:=zzs hi
  have hl:=h.len s
  have hoa:=h.oa s
  have ho0:∀J,Heap.obj (HS s++J) m=Heap.obj J 0:=λJ=>by rw[<-hl];exact qg8 _ _
  have ho1:∀J,Heap.obj (HS s++J) (m+1)=Heap.obj J 1:=λJ=>by rw[<-hl];exact qin _ _ 1
  have hp1:∀J v,Heap.put (HS s++J) (m+1) v=HS s++Heap.put J 1 v:=λJ v=>by rw[<-hl];exact qir _ _ _ 1
  simp[qrj,h1,hi,hl,hoa,ho1,hp1];refine qaX (λg=>?_) (λg=>?_)
  ·have g':e.Ad.l[i].Ai=acc:=by simpa using g
   have hy:=h.y s e e.Ad.l[i] hs he hx g'
   have hs':=h.hp s e e.Ad.l[i] hs he hx
   have hl':=h.len (f s e e.Ad.l[i])
   simp[g,h3,hl,ho0,ho1,hp1,hy,↓qFl,qGj];have e1:mvL acc f e i s e.Ad.l[i]=f s e e.Ad.l[i]:=by simp[mvL,g']
   rw[e1];refine hc _ _ _ hs' ?_;rw[<-hl',qsH _ (h.cl _) rfl (by simp[Fr.keep,qam,gh,PV.refs]) (by simp[Fr.keep,qam,gh,PV.refs,hl'];have:=h.lo;omega) (by simp[Fr.keep,qam,gh,PV.refs,hl'])]
   simp[Fr.keep,gh,hl']
  ·have g':¬e.Ad.l[i].Ai=acc:=by simpa using g
   simp[g,h3,hl,hp1];have e1:mvL acc f e i s e.Ad.l[i]=s:=by simp[mvL,g']
   rw[e1];refine hc _ _ _ hs ?_;rw[<-hl,qsH _ (h.cl _) rfl (by simp[Fr.keep,qam,gh,PV.refs]) (by simp[Fr.keep,qam,gh,PV.refs,hl];have:=h.lo;omega) (by simp[Fr.keep,qam,gh,PV.refs,hl])]
   simp[Fr.keep,gh,hl]
def qK1(h:MvY Y σ HS m o pj pa j t acc P f){e:Af}(he:e∈j){s:σ}(hs:P s):P (qaj (mvL acc f e) 0 s e.Ad.l):=by
 have key:∀(l:CF Ac) (i:Nat) (s:σ),P s->(∀x∈l,x∈e.Ad.l)->P (qaj (mvL acc f e) i s l):=by
  intro l;induction l with
  |nil=>intro i s hs _;exact hs
  |cons x l ih=>
   intro i s hs hl;rw[qaj];refine ih _ _ ?_ λy hy=>hl y (zzi _ hy)
   unfold mvL;split
   ·exact h.hp s e x hs he (hl x (zzr ..))
   ·exact hs
 exact key _ _ _ hs λ_ hx=>hx
def qJ4(T:Tab)(h:MvY Y σ HS m o pj pa j t acc P f)(hn:j.length<=maxLen)(ho:∀e∈j,e.Ad.l.length<=maxLen)(s0:σ)(hs0:P s0){k:KC (PV×CP)}{fr:Fr}{H:CP}
  (h0:gc [0,2,8,9,10] m ⟨fr,H⟩=⟨[(10,.d (I 0)),(9,.d (I j.length)),(8,.d (.l (K1 10) (j.map Af.dv) t)),(2,.p pa 0 0),(0,.h o)],HS s0⟩) :
  kC (T.Bb Y) m fr H (.h (.loop [0,2,8,9,10] qox,k))=k (.exit 0) [(11,.d (.b false)),(10,.d (I j.length)),(9,.d (I j.length)),(8,.d (.l (K1 10) (j.map Af.dv) t)),(2,.p pa 0 0),(0,.h o)] (HS (qaj (mvE acc f) 0 s0 j)):=by
 have hm:=mxl
 rw[qbi j (λi (s:σ)=>⟨[(10,.d (I i)),(9,.d (I j.length)),(8,.d (.l (K1 10) (j.map Af.dv) t)),(2,.p pa 0 0),(0,.h o)],HS s⟩) (λ_ s=>P s) (λi s x c=>c (mvE acc f i s x)) (λs=>k (.exit 0) [(11,.d (.b false)),(10,.d (I j.length)),(9,.d (I j.length)),(8,.d (.l (K1 10) (j.map Af.dv) t)),(2,.p pa 0 0),(0,.h o)] (HS s)) ?_ ?_ h0 hs0]
 ·rw[qdb (mvE acc f) _ _ (λ_ _ _ _=>rfl)]
 ·intro B _ s _;simp[qox]
 ·intro B _ i s hi hs c hc;have h1:(i:Int)<j.length:=by omega
  have h3:=wr1 (i:=i) (by omega)
  have he:j[i]∈j:=zzs hi
  have hl:=h.len s
  have ho0:∀J,Heap.obj (HS s++J) m=Heap.obj J 0:=λJ=>by rw[<-hl];exact qg8 _ _
  have hp0:∀J v,Heap.put (HS s++J) m v=HS s++Heap.put J 0 v:=λJ v=>by rw[<-hl];exact qjM _ _ _
  have lp:=λk fr H=>@qJ3 Y σ HS m o pj pa j t acc P f T h j[i] he (ho _ he) i s hs k fr H
  simp[qox,h1,hi,hl,ho0,hp0];rw[lp]
  ·simp[h3];have hs':=qK1 h he hs
   have hl':=h.len (qaj (mvL acc f j[i]) 0 s j[i].Ad.l)
   refine (hc _ _ _ hs' ?_).trans rfl;rw[<-hl',qyr _ (h.cl _) (by simp[Fr.keep,qam,gh,PV.refs,hl'];have:=h.lo;omega)]
   simp[Fr.keep,gh]
  ·rw[<-hl,qsH _ (h.cl _) rfl (by simp[Fr.keep,qam,gh,PV.refs]) (by simp[Fr.keep,qam,gh,PV.refs,hl];have:=h.lo;omega) (by simp[Fr.keep,qam,gh,PV.refs,hl])]
   simp[Fr.keep,gh,hl]
def qs5(T:Tab)(hT:HU T)(h:MvY Y σ HS m o pj pa j t acc P f)(hn:j.length<=maxLen)(ho:∀e∈j,e.Ad.l.length<=maxLen)(s0:σ)(hs0:P s0) :
  T.it Y 59 [.h o,.p pj 0 0,.p pa 0 0] (HS s0)=some (.t [],HS (qaj (mvE acc f) 0 s0 j)):=by
 rw[qHC T (hT 59 F59 rfl) Y rfl];have lp:=λk fr H=>@qJ4 Y σ HS m o pj pa j t acc P f T h hn ho s0 hs0 k fr H
 have hl:=h.len s0
 have hoj:Heap.obj (HS s0) pj=some (.box K0 (.d (.l (K1 10) (j.map Af.dv) t))):=by have:=h.oj s0 [];rwa [List.append_nil]at this
 simp[F59,Fr.Aa,hl,hoj];rw[lp]
 ·simp[qsx];rw[hl,<-h.len (qaj (mvE acc f) 0 s0 j)];exact qkP (h.cl _) (by simp[qa5,PV.refs,PV.AL])
 ·rw[<-hl,qnk _ (h.cl _) (by simp[Fr.keep,qam,gh,PV.refs,hl];have:=h.lo;omega)]
  simp[Fr.keep,gh]
end
def qPH(T:Tab)(hT:HU T)(j:CF Af)(t:CG)(acc:Int)(k0:K)(v0:DV):T.ref 50 [.d (.l (K1 10) (j.map Af.dv) t),.d (I acc)] [some (.box k0 (.d v0))]=some (.f 59 [.p 1 0 0,.p 2 0 0],[some (.box k0 (.d v0)),some (.box K0 (.d (.l (K1 10) (j.map Af.dv) t))),some (.box K0 (.d (I acc)))]):=by
 rw[qbW T (hT 50 F50 rfl) rfl];simp[F50,Fr.Aa,qbh,gcV,qap,qae,qav,Obj.refs,PV.refs,PV.AL,qaG,gcH,PV.ren,PV.Bt,Obj.ren,Heap.obj,zzd]
def qkR(j:CF Af)(t:CG)(acc:Int)(s:Int):CP:=[some (.box K0 (.d (I s))),some (.box K0 (.d (.l (K1 10) (j.map Af.dv) t))),some (.box K0 (.d (I acc))),some (.lp 0 none),some .df]
def fOf(s:Int)(_:Af)(x:Ac):Int:=w64 (s-x.Amount)
def ofP(j:CF Af)(acc:Int):Int:=qaj (mvE acc fOf) 0 0 j
def qK2(T:Tab)(_hT:HU T)(j:CF Af)(t:CG)(acc:Int):MvY (qit T.env qrn qro [(5,.p 0 0 0)] 3 [11,12]) Int (qkR j t acc) 5 3 1 2 j t acc (λ_=>True) fOf where
 len _:=rfl
 cl _:=by intro r h;simp[qkR,qae,qav,Obj.refs,PV.refs]at h
 oj _ _:=rfl
 oa _ _:=rfl
 lo:=⟨by decide,by decide,by decide⟩
 hp _ _ _ _ _ _:=trivial
 y s e x _ _ _ _:=by
  rw[quz rfl rfl];simp[qrn,qro,qkR,qdx];exact qkP (H:=qkR j t acc (fOf s e x)++[some (.box (K1 10) (.d e.dv)),some (.box (K1 3) (.d x.dv))]) (by intro r h;simp[qkR,qae,qav,Obj.refs,PV.refs]at h) (v:=.d (.b true)) (by simp[PV.refs])
def qvQ(T:Tab)(hT:HU T)(l:CF Af)(t:CG)(acc:Int)(hn:l.length<=maxLen)(ho:∀e∈l,e.Ad.l.length<=maxLen):T.val 715 [.l (K1 10) (l.map Af.dv) t,I acc]=some (.d (I (ofP l acc)),false):=by
 rw[qab T (hT 715 qmg rfl) rfl];have e:=qPH T hT l t acc K0 (I 0)
 have e2:=qs5 T hT (qK2 T hT l t acc) hn ho 0 trivial
 simp[qmg,Fr.Aa,e,↓qs6,↓quA,qsn,Fr.only];refine (congrArg (λz=>bo z _) e2).trans ?_
 simp[qli,qkR,fin,Bo];rfl
def qqY(a b:Int):w64 (w64 a+b)=w64 (a+b):=by
 unfold w64;rw[IntKind.wrap_i64,IntKind.wrap_i64,IntKind.wrap_i64];omega
def qSL(a b:Int):w64 (a+w64 b)=w64 (a+b):=by rw[Int.add_comm,qqY,Int.add_comm]
def qDB(a:Int):w64 (w64 a)=w64 a:=by have:=qqY a 0;simpa using this
def qtQ(acc s:Int):∀(l:CF Ac) (i:Nat) (d:Int),qaj (qcv acc) i (w64 (s+d)) l=w64 (s+qaj (qcv acc) i (w64 d) l)
 |[],i,d=>by simp only[qaj];rw[qSL]
 |x::l,i,d=>by
  simp only[qaj];by_cases h:(x.Ai==acc)=true
  ·have e1:qcv acc i (w64 (s+d)) x=w64 (s+(d-x.Amount)):=by
    simp only[qcv,h,if_true,Int.sub_eq_add_neg,qqY,Int.add_assoc]
   have e2:qcv acc i (w64 d) x=w64 (d-x.Amount):=by
    simp only[qcv,h,if_true,Int.sub_eq_add_neg,qqY]
   rw[e1,e2,qtQ acc s l (i+1)]
  ·have e1:qcv acc i (w64 (s+d)) x=w64 (s+d):=by simp only[qcv,if_neg h]
   have e2:qcv acc i (w64 d) x=w64 d:=by simp only[qcv,if_neg h]
   rw[e1,e2,qtQ acc s l (i+1)]
def qAR(acc:Int)(e:Af):∀(l:CF Ac) (i:Nat) (s:Int),qaj (mvL acc fOf e) i s l=qaj (qcv acc) i s l
 |[],_,_=>rfl
 |x::l,i,s=>by
  have:mvL acc fOf e i s x=qcv acc i s x:=by by_cases h:x.Ai=acc<;>simp[mvL,qcv,fOf,h]
  rw[qaj,qaj,this,qAR acc e l]
def qA9(acc:Int):∀(l:CF Af) (i:Nat) (n:Int),w64 n=n->qaj (mvE acc fOf) i n l=qaj (qjh acc) i n l
 |[],_,_,_=>rfl
 |e::l,i,n,h=>by
  have e1:mvE acc fOf i n e=qjh acc i n e:=by
   unfold mvE qjh qjC;rw[qAR]
   have:=qtQ acc n e.Ad.l 0 0
   rw[Int.add_zero,h,show w64 0=0 from rfl]at this
   exact this
  rw[qaj,qaj,e1];exact qA9 acc l (i+1) _ (qDB _)
def qtW(l:CF Af)(acc:Int):ofP l acc=ofR l acc:=qA9 acc l 0 0 rfl
section
variable {R:Type}{E:Env}{ρ:Ab->PV}{H:CP}{id:Nat}{q:PV->CP->CE R}{x i:Ab}
def qbl:bo2 (qaa E ρ H id (.idxS x i)) (.h q)=qdE (ρ x) (ρ i) (.h λv=>q v H):=by
 cases hx:ρ x with
 |d v=>
  cases v with
  |s s=>
   cases hi:ρ i with
   |d w=>
    cases w with
    |i kk n=>rw[qwO hx hi];rfl
    |_=>simp[qaa,hx,hi,asI,qdE,bo2]
   |_=>simp[qaa,hx,hi,asI,qdE,bo2]
  |_=>simp[qaa,hx,qdE,bo2]
 |_=>simp[qaa,hx,qdE,bo2]
end
def qtv:Cv:=[0,1,2,2,3,3,3,3,4,4,4,4,4,4,4,4,5,5,5,5,5,5,5,5,5,5,5,5,5,5,5,5,6,6,6,6,6,6,6,6,6,6,6,6,6,6,6,6,6,6,6,6,6,6,6,6,6,6,6,6,6,6,6,6,7,7,7,7,7,7,7,7,7,7,7,7,7,7,7,7,7,7,7,7,7,7,7,7,7,7,7,7,7,7,7,7,7,7,7,7,7,7,7,7,7,7,7,7,7,7,7,7,7,7,7,7,7,7,7,7,7,7,7,7,7,7,7,7,8,8,8,8,8,8,8,8,8,8,8,8,8,8,8,8,8,8,8,8,8,8,8,8,8,8,8,8,8,8,8,8,8,8,8,8,8,8,8,8,8,8,8,8,8,8,8,8,8,8,8,8,8,8,8,8,8,8,8,8,8,8,8,8,8,8,8,8,8,8,8,8,8,8,8,8,8,8,8,8,8,8,8,8,8,8,8,8,8,8,8,8,8,8,8,8,8,8,8,8,8,8,8,8,8,8,8,8,8,8,8,8,8,8,8,8,8,8,8,8,8,8,8,8,8,8,8,8]
set_option maxRecDepth 100000 in
def qJC(i:Nat)(h:i<256):qtv[i]? = some (UInt8.ofNat (Go.bitLen i)):=by
 have all:∀j:Fin 256,qtv[j.val]? = some (UInt8.ofNat (Go.bitLen j.val)):=by decide +kernel
 exact all ⟨i,h⟩
def qid{R:Type}(m:Nat)(hm:m<256){d:PV->CE R}:qdE (.d (.s qtv)) (.d (.i .u8 (m:Int))) (.h d)=d (.d (.i .u8 (Go.bitLen m:Nat))):=by
 have h8:=Go.bitLen_le8 m hm
 rw[qbe];simp only[chk,Int.toNat_natCast,qJC m hm,bo];rw[if_pos (by omega)]
 have:(UInt8.ofNat (Go.bitLen m)).toNat=Go.bitLen m:=by
  rw[UInt8.toNat_ofNat'];omega
 rw[this]
def qju{x b:Nat}(h:2^b<=x):Go.bitLen x=b+Go.bitLen (x/2^b):=by
 apply Go.bitLen_shift
 have:=Nat.div_pos h (Nat.two_pow_pos b)
 omega
def qR7(T:Tab)(hT:HT T)(x:Nat)(hx:x<18446744073709551616):T.val 74 [.i .u64 (x:Int)]=some (.d (I (Go.bitLen x:Nat)),false):=by
 rw[qab T (hT 74 F74 rfl) rfl];obtain⟨a,ea⟩:∃a,a=if 4294967296<=x then x/4294967296 else x:=⟨_,rfl⟩
 obtain⟨b,eb⟩:∃b,b=if 65536<=a then a/65536 else a:=⟨_,rfl⟩
 obtain⟨c,ec⟩:∃c,c=if 256<=b then b/256 else b:=⟨_,rfl⟩
 have ha:a<4294967296:=by rw[ea];split<;>omega
 have hb:b<65536:=by rw[eb];split<;>omega
 have hc:c<256:=by rw[ec];split<;>omega
 have w:∀n:Int,0<=n->n<=100->IntKind.i64.wrap n=n:=λn h h'=>wrI (by omega) (by omega)
 have w8:IntKind.u8.wrap (c:Int)=(c:Int):=by rw[IntKind.wrap_u8];omega
 have h8:=Go.bitLen_le8 c hc
 have wc:IntKind.i64.wrap ((Go.bitLen c:Nat):Int)=((Go.bitLen c:Nat):Int):=wrI (by omega) (by omega)
 obtain⟨r,hr⟩:∃r:Cz,some (.d (I (Go.bitLen x:Nat)),false)=r:=⟨_,rfl⟩;have s1:=qiv (x:Int)
 have s2:=qoa (a:Int) 16 (by omega)
 have s3:=qoa (b:Int) 8 (by omega)
 rw[show ((16:Nat):Int)=16 from rfl]at s2
 rw[show ((8:Nat):Int)=8 from rfl]at s3
 have wk1:IntKind.i64.wrap 8=8:=by decide
 have wk2:IntKind.i64.wrap 16=16:=by decide
 have wk3:IntKind.i64.wrap 24=24:=by decide
 have wk4:IntKind.i64.wrap 32=32:=by decide
 have wk5:IntKind.i64.wrap 40=40:=by decide
 have wk6:IntKind.i64.wrap 48=48:=by decide
 have wk7:IntKind.i64.wrap 56=56:=by decide
 rw[hr];have key:∀z:Int,z=(Go.bitLen x:Nat)->some (PV.d (I z),false)=r:=λz hz=>by rw[hz];exact hr
 by_cases h1:4294967296<=x
 ·rw[if_pos h1]at ea;have g1:(4294967296:Int)<=(x:Int):=by omega
  rw[show (x:Int)/4294967296=(a:Int)by omega]at s1
  have l1:=qju (x:=x) (b:=32) h1
  rw[show x/2^32=a by rw[ea]]at l1
  by_cases h2:65536<=a
  ·rw[if_pos h2]at eb;have g2:(65536:Int)<=(a:Int):=by omega
   rw[show (a:Int)/2^16=(b:Int)by rw[eb];norm_cast]at s2
   have l2:=qju (x:=a) (b:=16) h2
   rw[show a/2^16=b by rw[eb]]at l2
   by_cases h3:256<=b
   ·rw[if_pos h3]at ec;have g3:(256:Int)<=(b:Int):=by omega
    rw[show (b:Int)/2^8=(c:Int)by rw[ec];norm_cast]at s3
    have l3:=qju (x:=b) (b:=8) h3
    rw[show b/2^8=c by rw[ec]]at l3
    simp[F74,Fr.Aa,↓qbl,↓qaS,↓qa7,g1,g2,g3,↓qaP s1,↓qaP s2,↓qaP s3,w8];have wz:IntKind.i64.wrap (56+((Go.bitLen c:Nat):Int))=56+((Go.bitLen c:Nat):Int):=wrI (by omega) (by omega)
    refine (qid c hc).trans ?_;simp[↓qaS,↓qa7,wc,wk1,wk2,wk3,wk4,wk5,wk6,wk7,wz];exact key _ (by omega)
   ·rw[if_neg h3]at ec;have g3:¬(256:Int)<=(b:Int):=by omega
    subst ec;simp[F74,Fr.Aa,↓qbl,↓qaS,↓qa7,g1,g2,g3,↓qaP s1,↓qaP s2,w8];have wz:IntKind.i64.wrap (48+((Go.bitLen c:Nat):Int))=48+((Go.bitLen c:Nat):Int):=wrI (by omega) (by omega)
    refine (qid c hc).trans ?_;simp[↓qaS,↓qa7,wc,wk1,wk2,wk3,wk4,wk5,wk6,wk7,wz];exact key _ (by omega)
  ·rw[if_neg h2]at eb;have g2:¬(65536:Int)<=(a:Int):=by omega
   subst eb;by_cases h3:256<=b
   ·rw[if_pos h3]at ec;have g3:(256:Int)<=(b:Int):=by omega
    rw[show (b:Int)/2^8=(c:Int)by rw[ec];norm_cast]at s3
    have l3:=qju (x:=b) (b:=8) h3
    rw[show b/2^8=c by rw[ec]]at l3
    simp[F74,Fr.Aa,↓qbl,↓qaS,↓qa7,g1,g2,g3,↓qaP s1,↓qaP s3,w8];have wz:IntKind.i64.wrap (40+((Go.bitLen c:Nat):Int))=40+((Go.bitLen c:Nat):Int):=wrI (by omega) (by omega)
    refine (qid c hc).trans ?_;simp[↓qaS,↓qa7,wc,wk1,wk2,wk3,wk4,wk5,wk6,wk7,wz];exact key _ (by omega)
   ·rw[if_neg h3]at ec;have g3:¬(256:Int)<=(b:Int):=by omega
    subst ec;simp[F74,Fr.Aa,↓qbl,↓qaS,↓qa7,g1,g2,g3,↓qaP s1,w8];have wz:IntKind.i64.wrap (32+((Go.bitLen c:Nat):Int))=32+((Go.bitLen c:Nat):Int):=wrI (by omega) (by omega)
    refine (qid c hc).trans ?_;simp[↓qaS,↓qa7,wc,wk1,wk2,wk3,wk4,wk5,wk6,wk7,wz];exact key _ (by omega)
 ·rw[if_neg h1]at ea;have g1:¬(4294967296:Int)<=(x:Int):=by omega
  subst ea;by_cases h2:65536<=a
  ·rw[if_pos h2]at eb;have g2:(65536:Int)<=(a:Int):=by omega
   rw[show (a:Int)/2^16=(b:Int)by rw[eb];norm_cast]at s2
   have l2:=qju (x:=a) (b:=16) h2
   rw[show a/2^16=b by rw[eb]]at l2
   by_cases h3:256<=b
   ·rw[if_pos h3]at ec;have g3:(256:Int)<=(b:Int):=by omega
    rw[show (b:Int)/2^8=(c:Int)by rw[ec];norm_cast]at s3
    have l3:=qju (x:=b) (b:=8) h3
    rw[show b/2^8=c by rw[ec]]at l3
    simp[F74,Fr.Aa,↓qbl,↓qaS,↓qa7,g1,g2,g3,↓qaP s2,↓qaP s3,w8];have wz:IntKind.i64.wrap (24+((Go.bitLen c:Nat):Int))=24+((Go.bitLen c:Nat):Int):=wrI (by omega) (by omega)
    refine (qid c hc).trans ?_;simp[↓qaS,↓qa7,wc,wk1,wk2,wk3,wk4,wk5,wk6,wk7,wz];exact key _ (by omega)
   ·rw[if_neg h3]at ec;have g3:¬(256:Int)<=(b:Int):=by omega
    subst ec;simp[F74,Fr.Aa,↓qbl,↓qaS,↓qa7,g1,g2,g3,↓qaP s2,w8];have wz:IntKind.i64.wrap (16+((Go.bitLen c:Nat):Int))=16+((Go.bitLen c:Nat):Int):=wrI (by omega) (by omega)
    refine (qid c hc).trans ?_;simp[↓qaS,↓qa7,wc,wk1,wk2,wk3,wk4,wk5,wk6,wk7,wz];exact key _ (by omega)
  ·rw[if_neg h2]at eb;have g2:¬(65536:Int)<=(a:Int):=by omega
   subst eb;by_cases h3:256<=b
   ·rw[if_pos h3]at ec;have g3:(256:Int)<=(b:Int):=by omega
    rw[show (b:Int)/2^8=(c:Int)by rw[ec];norm_cast]at s3
    have l3:=qju (x:=b) (b:=8) h3
    rw[show b/2^8=c by rw[ec]]at l3
    simp[F74,Fr.Aa,↓qbl,↓qaS,↓qa7,g1,g2,g3,↓qaP s3,w8];have wz:IntKind.i64.wrap (8+((Go.bitLen c:Nat):Int))=8+((Go.bitLen c:Nat):Int):=wrI (by omega) (by omega)
    refine (qid c hc).trans ?_;simp[↓qaS,↓qa7,wc,wk1,wk2,wk3,wk4,wk5,wk6,wk7,wz];exact key _ (by omega)
   ·rw[if_neg h3]at ec;have g3:¬(256:Int)<=(b:Int):=by omega
    subst ec;simp[F74,Fr.Aa,↓qbl,↓qaS,↓qa7,g1,g2,g3,w8];refine (qid c hc).trans ?_;simp[↓qaS,↓qa7,wc];exact key _ (by omega)
def qtw{x:Nat}(hx:x<18446744073709551616):Go.bitLen x<=64:=by
 unfold Go.bitLen;split
 ·omega
 ·rename_i h;have:=(Nat.log2_lt h).2 (show x<2^64 from hx)
  omega
def qR6(T:Tab)(hT:HT T)(x:Nat)(hx:x<18446744073709551616):T.val 73 [.i .u64 (x:Int)]=some (.d (I ((64-Go.bitLen x:Nat):Int)),false):=by
 have e:=qR7 T hT x hx
 have hl:=qtw hx
 have w:IntKind.i64.wrap (64-((Go.bitLen x:Nat):Int))=((64-Go.bitLen x:Nat):Int):=by rw[wrI (by omega) (by omega)];omega
 rw[qab T (hT 73 F73 rfl) rfl];simp[F73,Fr.Aa,e,w]
def qKz{y:Nat}(h0:0<y)(h1:y<18446744073709551616):9223372036854775808<=y*2^(64-Go.bitLen y)/\y*2^(64-Go.bitLen y)<18446744073709551616:=by
 obtain⟨b1,b2⟩:=Go.bitLen_spec y;have b2:=b2 (by omega)
 have hl:=qtw h1
 have hp:0<Go.bitLen y:=by
  unfold Go.bitLen;rw[if_neg (by omega)]
  omega
 constructor
 ·have:2^(Go.bitLen y-1)*2^(64-Go.bitLen y)<=y*2^(64-Go.bitLen y):=zzh _ b2
  rw[<-Nat.pow_add,show Go.bitLen y-1+(64-Go.bitLen y)=63 by omega]at this
  exact this
 ·have:y*2^(64-Go.bitLen y)<2^Go.bitLen y*2^(64-Go.bitLen y):=Nat.mul_lt_mul_of_pos_right b1 (Nat.two_pow_pos _)
  rw[<-Nat.pow_add,show Go.bitLen y+(64-Go.bitLen y)=64 by omega]at this
  exact this
def qwT{y:Int}(h:2000<=y)(h2:y<=2200):0<=bgI y/\bgI y<=73049:=by
 unfold bgI;split<;>omega
def qxg(y:Int):∀m:Nat,m<=12->0<=cmI y m/\cmI y m<=31*m
 |0,_=>⟨Int.le_refl _,Int.le_refl _⟩
 |m+1,h=>by
  have:=qxg y m (by omega)
  have:=qk2 (y:=y) (m:=1+m) (by omega) (by omega)
  simp only[cmI];omega
def qKm(T:Tab)(hT:HV T)(y d:Int)(m:Nat)(hm:m<12)(hy:2000<=y)(hy2:y<=2200)(hd:0<=d)(hd2:d<1000){k:KC (PV×CG)}{fr:Fr}{H:CP}(h0:gc [0,1,8,9] 0 ⟨fr,H⟩=⟨[(9,.d (I 1)),(8,.d (I (bgI y+d))),(1,.d (I (1+m))),(0,.d (I y))],[]⟩) :
  kC T.env 0 fr H (.h (.loop [0,1,8,9] qry,k))=k (.exit 0) [(42,.d (.b false)),(9,.d (I (1+m))),(8,.d (I (bgI y+d+cmI y m))),(1,.d (I (1+m))),(0,.d (I y))] []:=by
 have hb:=qwT hy hy2
 refine qil (λs:Int×Int=>⟨[(9,.d (I s.1)),(8,.d (I s.2)),(1,.d (I (1+m))),(0,.d (I y))],[]⟩) (λi=>(1+(i:Int),bgI y+d+cmI y i)) m ?_ ?_ (by rw[h0];simp[cmI])
 ·intro B _;simp[qry]
 ·intro B _ i hi c hc;have e:=qqW T hT y (1+i) (by omega) (by omega)
  have g:(1:Int)+i<1+m:=by omega
  have g2:((i:Int)<m):=by omega
  have w:IntKind.i64.wrap (1+(i:Int)+1)=1+(i:Int)+1:=wrI (by omega) (by omega)
  have w2:IntKind.i64.wrap (bgI y+d+cmI y i+lnI y (1+i))=bgI y+d+cmI y (i+1):=by
   have:=qk2 (y:=y) (m:=1+i) (by omega) (by omega)
   have:=qxg y i (by omega)
   rw[wrI (by omega) (by omega)];simp only[cmI];omega
  simp[qry,w,e,g,w2];exact hc _ _ (by simp[gc,Fr.keep,qap,qam,qae,PV.refs,gcH,PV.ren,Obj.ren,Heap.obj,Fr.ren,gh];omega)
def qSt(T:Tab)(hT:HV T)(y d:Int)(m:Nat)(hm:m<12)(hy:2000<=y)(hy2:y<2200)(hd:1<=d)(hd2:d<=lnI y (1+m)):T.val 933 [I y,I (1+m),I d]=some (.t [.d (I (bgI y+(d-1)+cmI y m)),.d (I 0)],false):=by
 rw[qab T (hT 933 F933 rfl) rfl];have l:=qk2 (y:=y) (m:=1+m) (by omega) (by omega)
 have hb:=qwT hy (by omega)
 have g1:¬y<2000:=by omega
 have g2:¬2199<y:=by omega
 have g3:¬(1+(m:Int)<1):=by omega
 have g4:¬(12<1+(m:Int)):=by omega
 have g5:¬d<1:=by omega
 have g6:¬lnI y (1+m)<d:=by omega
 have e:=qqW T hT y (1+m) (by omega) (by omega)
 have e2:=qqV T hT y hy (by omega)
 have w1:IntKind.i64.wrap (bgI y+d)=bgI y+d:=wrI (by omega) (by omega)
 have w2:IntKind.i64.wrap (bgI y+d-1)=bgI y+(d-1):=by rw[wrI (by omega) (by omega)];omega
 have lp:=λk fr H=>@qKm T hT y (d-1) m hm hy (by omega) (by omega) (by omega) k fr H
 simp[F933,Fr.Aa,g1,g2,g3,g4,g5,g6,e,e2,w1,w2];refine (lp _ _ _ (by simp[gc,Fr.keep,qap,qam,qae,PV.refs,gcH,PV.ren,Obj.ren,Heap.obj,Fr.ren,gh])).trans ?_
 simp
def qDu(T:Tab)(hT:HV T)(d:Int)(n m:Nat)(h:Civ d n m):T.val 879 [I d]=some (.d (I (bgI (2000+n)+cmI (2000+n) m)),false):=by
 rw[qab T (hT 879 qmm rfl) rfl];have e:=qR2 T hT d n m h
 obtain⟨h1,h2,h3,h4,h5,h6⟩:=h;have l:=qk2 (y:=2000+n) (m:=1+m) (by omega) (by omega)
 have e2:=qSt T hT (2000+n) 1 m h4 (by omega) (by omega) (by omega) (by omega)
 simp[qmm,Fr.Aa,e,e2]
noncomputable def mst(d:Int):Int:=if h:qa3 d=true then bgI (2000+(Classical.choose (qm7 h):Nat))+cmI (2000+(Classical.choose (qm7 h):Nat)) (Classical.choose (Classical.choose_spec (qm7 h)))else 0
def qKX{d:Int}(h:qa3 d=true):∃n m,Civ d n m/\mst d=bgI (2000+n)+cmI (2000+n) m:=by
 refine⟨_,_,Classical.choose_spec (Classical.choose_spec (qm7 h)),?_⟩;simp only[mst,h,dite_true]
def qSg(T:Tab)(hT:HV T)(d:Int)(h:qa3 d=true):T.val 879 [I d]=some (.d (I (mst d)),false):=by
 obtain⟨n,m,h1,e⟩:=qKX h;rw[e];exact qDu T hT d n m h1
def qiT(b:Ap)(id day:Int):CG:=match qcL b id with
 |none=>false
 |some a=>decide (a.BN<=day)&&((a.Closed==0)||decide (day<a.Closed))
def qvJ(T:Tab)(hT:HV T)(hU:HU T)(b:Ap)(id day:Int)(hb:b.ok):T.val 39 [b.dv,I id,I day]=some (.d (.b (qiT b id day)),false):=by
 rw[qab T (hT 39 F39 rfl) rfl];have e:=qof T hU b id hb
 unfold qiT;cases hf:qcL b id with
 |none=>
  rw[hf]at e;simp only[Option.getD_none,Option.isSome_none]at e;simp[F39,Fr.Aa,e]
 |some a=>
  rw[hf]at e;simp only[zzA,Option.isSome_some]at e;simp[F39,Fr.Aa,e];repeat' (refine qaX (λh=>?_) (λh=>?_)<;>(try simp at h)<;>(try simp[h]))
  all_goals (first|(simp_all;done)|omega)
def qqn(id:Int)(x:Ac):CG:=x.Ai==id
def tch(id:Int)(e:Af):CG:=e.Ad.l.any (qqn id)
def qsW{α:Type}(p:α->CG)(l:CF α):decide (0<=qgD p l)=l.any p:=by
  unfold qgD;cases h:l.findIdx? p with
  |none=>
    have:=List.findIdx?_eq_none_iff.1 h
    have:l.any p=false:=by
      rw[List.any_eq_false];intro x hx;simpa using this x hx
    rw[this];rfl
  |some j=>
    have:l.any p=true:=by
      obtain⟨hj,h1,-⟩:=List.findIdx?_eq_some_iff_getElem.1 h;exact List.any_eq_true.2 ⟨_,zzs hj,h1⟩
    rw[this];simp
def qPK{α:Type}(T:Tab)(hT:HV T)(g:Nat)(dv:α->DV)(p:α->CG)(c:PV)(cs:Cu)(H0:CP)(hH:Cl H0)(hc:∀r∈PV.AL (c::cs),r<H0.length)(l:CF α)(hv:∀x∈l,T.ref g (.d (dv x)::c::cs) H0=some (.d (.b (p x)),H0))(s:CG)(hn:l.length<=maxLen) :
    T.ref 708 [.d (.l (K1 3) (l.map dv) s),.f g (c::cs)] H0=some (.d (.b (l.any p)),H0):=by
  rw[qbW T (hT 708 qmf rfl) rfl];have e:=qqy T (hT 265 qiG rfl) g dv p c cs H0 hH hc l hv s hn
  have e2:=qsW p l
  simp[qmf,Fr.Aa,e,e2,qbh,qnj hH]
def qPO(T:Tab)(hT:HV T)(x:Ac)(e:Af)(id:Int):T.ref 934 [.d x.dv,.p 1 0 0] [some (.box (K1 10) (.d e.dv)),some (.box K0 (.d (I id)))]=some (.d (.b (qqn id x)),[some (.box (K1 10) (.d e.dv)),some (.box K0 (.d (I id)))]):=by
  rw[qbW T (hT 934 qmw rfl) rfl];have hH:=qoj (K1 10) K0 e.dv (I id)
  simp[qmw,Fr.Aa,qbh,qqn];exact (qeT hH [some (.box (K1 3) (.d x.dv))] _)
def qSm(T:Tab)(hT:HV T)(e:Af)(id:Int)(hn:e.Ad.l.length<=maxLen):T.val 883 [e.dv,I id]=some (.d (.b (tch id e)),false):=by
  rw[qab T (hT 883 qmo rfl) rfl];have e1:=qPK T hT 934 Ac.dv (qqn id) (.p 1 0 0) [] [some (.box (K1 10) (.d e.dv)),some (.box K0 (.d (I id)))] (qoj _ _ _ _) (by simp[PV.refs,PV.AL]) e.Ad.l (λa _=>qPO T hT a e id) e.Ad.t hn
  simp[qmo,Fr.Aa,e1,tch]
def qep(id frm upto:Int)(_:Nat)(n:Int)(e:Af):Int:=if (decide (frm<=e.AU)&&(decide (e.AU<=upto)&&tch id e))=true then w64 (n+1)else n
def qja(j:CF Af)(id frm upto:Int):Int:=qaj (qep id frm upto) 0 0 j
def qKe(T:Tab)(hT:HV T)(a:AC)(l:CF Af)(t:CG)(id frm upto amt now low vol:Int)(hn:l.length<=maxLen)(ho:∀e∈l,e.ok){k:KC (PV×CG)}{fr:Fr}{H:CP}(h0:gc [1,2,3,10,12,13,14,16,18,75,76,77] 0 ⟨fr,H⟩=⟨[(77,(.d (I (0:Int)))),(76,(.d (I l.length))),(75,(.d (.l (K1 10) (l.map Af.dv) t))),(18,(.d (I 0))),(16,(.d (I vol))),(14,(.d (I low))),(13,(.d (I now))),(12,(.d (I frm))),(10,(.p 0 0 0)),(3,(.d (I amt))),(2,(.d (I upto))),(1,(.d (I id)))],[some (.box (K1 7) (.d a.dv))]⟩) :
    kC T.env 0 fr H (.h (.loop [1,2,3,10,12,13,14,16,18,75,76,77] qrq,k))=k (.exit 1) [(78,.d (.b false)),(77,(.d (I (l.length:Int)))),(76,(.d (I l.length))),(75,(.d (.l (K1 10) (l.map Af.dv) t))),(18,(.d (I (qaj (qep id frm upto) 0 0 l)))),(16,(.d (I vol))),(14,(.d (I low))),(13,(.d (I now))),(12,(.d (I frm))),(10,(.p 0 0 0)),(3,(.d (I amt))),(2,(.d (I upto))),(1,(.d (I id)))] [some (.box (K1 7) (.d a.dv))]:=by
  rw[qbi l (λi (b:Int)=>⟨[(77,(.d (I (i:Int)))),(76,(.d (I l.length))),(75,(.d (.l (K1 10) (l.map Af.dv) t))),(18,(.d (I b))),(16,(.d (I vol))),(14,(.d (I low))),(13,(.d (I now))),(12,(.d (I frm))),(10,(.p 0 0 0)),(3,(.d (I amt))),(2,(.d (I upto))),(1,(.d (I id)))],[some (.box (K1 7) (.d a.dv))]⟩) (λ_ _=>True) (λi b x c=>c (qep id frm upto i b x)) (λb=>k (.exit 1) [(78,.d (.b false)),(77,(.d (I (l.length:Int)))),(76,(.d (I l.length))),(75,(.d (.l (K1 10) (l.map Af.dv) t))),(18,(.d (I b))),(16,(.d (I vol))),(14,(.d (I low))),(13,(.d (I now))),(12,(.d (I frm))),(10,(.p 0 0 0)),(3,(.d (I amt))),(2,(.d (I upto))),(1,(.d (I id)))] [some (.box (K1 7) (.d a.dv))]) ?_ ?_ h0 trivial]
  · rw[qdb (qep id frm upto) _ _ (λ_ _ _ _=>rfl)]
  · intro B _ b _
    simp[qrq]
  · intro B _ i b hi _ c hc
    have hm:=mxl
    have h1:(i:Int)<l.length:=by omega
    have h3:=wr1 (i:=i) (by omega)
    have hl:l[i].Ad.l.length<=maxLen:=((ho _ (zzs hi)).2.2.2.2.2.2.2.2.1).1
    have hv:=qSm T hT l[i] id hl
    obtain⟨q,hq⟩:∃q,tch id l[i]=q:=⟨_,rfl⟩;rw[hq]at hv;simp[qrq,h1,hi];repeat' (refine qaX (λh=>?_) (λh=>?_)<;>(try simp at h)<;>(try simp[h,h3,hv]))
    all_goals first
      | (have e:(qep id frm upto) i b l[i]=w64 (b+1):=by
           simp[qep, *];try (intros;omega)
         rw[e];exact hc _ _ _ trivial (by simp[gc,Fr.keep,qap,qam,qae,PV.refs,qaG,gcH,qav,Obj.refs,PV.ren,Obj.ren,Heap.obj,Fr.ren,gh,zzd,w64];try rfl))
      | (have e:(qep id frm upto) i b l[i]=b:=by
           simp[qep, *];try (intros;omega)
         rw[e];exact hc _ _ _ trivial (by simp[gc,Fr.keep,qap,qam,qae,PV.refs,qaG,gcH,qav,Obj.refs,PV.ren,Obj.ren,Heap.obj,Fr.ren,gh,zzd];try rfl))
def qeZ:Cw->Int
  |[]=>0
  |x::r=>r.foldl min x
def qyg:∀(r:Cw) (i:Nat) (b:Int),qaj (λ_ b x=>min b x) i b r=r.foldl min b
  |[],_,_=>rfl
  |x::r,i,b=>by rw[qaj,qyg r,List.foldl_cons]
def qKj(T:Tab)(x:Int)(l:Cw)(t:CG)(hn:l.length<maxLen){k:KC (PV×CG)}{fr:Fr}{H:CP}(h0:gc [0,3,4] 0 ⟨fr,H⟩=⟨[(4,.d (I 1)),(3,.d (I x)),(0,.d (.l K0 (I x::l.map I) t))],[]⟩) :
    kC T.env 0 fr H (.h (.loop [0,3,4] qru,k))=k (.exit 0) [(15,.d (.b false)),(4,.d (I (l.length+1))),(3,.d (I (l.foldl min x))),(0,.d (.l K0 (I x::l.map I) t))] []:=by
  have hm:=mxl
  rw[qbi l (λi (b:Int)=>⟨[(4,.d (I ((i:Int)+1))),(3,.d (I b)),(0,.d (.l K0 (I x::l.map I) t))],[]⟩) (λ_ _=>True) (λi b y c=>c (min b y)) (λb=>k (.exit 0) [(15,.d (.b false)),(4,.d (I (l.length+1))),(3,.d (I b)),(0,.d (.l K0 (I x::l.map I) t))] []) ?_ ?_ (by simpa using h0) trivial]
  · rw[qdb (λ_ b y=>min b y) _ _ (λ_ _ _ _=>rfl),qyg]
  · intro B _ b _
    simp[qru]
  · intro B _ i b hi _ c hc
    have h1:(i:Int)+1<l.length+1:=by omega
    have h3:IntKind.i64.wrap ((i:Int)+1+1)=(i:Int)+1+1:=wrI (by omega) (by omega)
    have h4:(0:Int)<=(i:Int)+1:=by omega
    have h5:((i:Int)+1).toNat=i+1:=by omega
    simp[qru,h1,hi,h3,h4,↓qFc];exact hc _ _ _ trivial (by simp[gc,Fr.keep,qap,qam,qae,PV.refs,gcH,PV.ren,Obj.ren,Heap.obj,Fr.ren,gh])
def qSj(T:Tab)(hT:HV T)(x:Int)(l:Cw)(t:CG)(hn:l.length<maxLen):T.val 881 [.l K0 ((x::l).map I) t]=some (.d (I (qeZ (x::l))),false):=by
  rw[qab T (hT 881 F881 rfl) rfl];have h1:¬((l.length:Int)+1<1):=by omega
  have h2:(0:Int)<(l.length:Int)+1:=by omega
  have lp:=λk fr H=>@qKj T x l t hn k fr H
  simp[F881,Fr.Aa,h1,h2];refine (lp _ _ _ (by simp[gc,Fr.keep,qap,qam,qae,PV.refs,gcH,PV.ren,Obj.ren,Heap.obj,Fr.ren,gh])).trans ?_
  simp[qeZ]
def qdg(b:Ap)(id day:Int):Int×Int:=if (qeS b id day).2=0 then (w64 (w64 (w64 (ofR b.Ar.l id-(qeS b id day).1)-qev b.Holds.l id day)-qeB b.Bc.l id day),0)else (0,(qeS b id day).2)
def qR1(T:Tab)(hT:HU T)(b:Ap)(id day:Int)(hb:b.ok)(hbl:b.Bc.l.length<=100000):T.val 634 [b.dv,I id,I day]=some (.t [.d (I (qdg b id day).1),.d (I (qdg b id day).2)],false):=by
 rw[qab T (hT 634 qmb rfl) rfl];have e1:=qDo T hT b id day hb
 have e2:=qvQ T hT b.Ar.l b.Ar.t id (hb.2.2.2.2.2.2.1).1 (λe he=>((hb.2.2.2.2.2.2.1).2 e he).2.2.2.2.2.2.2.2.1.1)
 rw[qtW]at e2;have e3:=qDn T hT b.Holds.l b.Holds.t id day (hb.2.2.2.2.2.2.2.1).1
 have e4:=qDp T hT b.Bc.l b.Bc.t id day hbl
 unfold qdg;generalize qeS b id day=fl at e1⊢;simp[qmb,Fr.Aa,e1];repeat' (refine qaX (λh=>?_) (λh=>?_)<;>(try simp at h)<;>(try simp[h,e2,e3,e4]))
 all_goals simp_all[w64]
def qnb(n:Int)(x:Aq):CG:=if x.Kind=1 then true else if x.Kind=2 then decide (0<n)else if x.Kind=3 then decide (n<0)else false
def qSb(T:Tab)(hU:HU T)(hQ:HQ T)(x:Aq)(n:Int):T.val 857 [x.dv,I n]=some (.d (.b (qnb n x)),false):=by
 rw[qab T (hQ 857 qfe rfl) rfl];have e:=qDt T hU x
 unfold qna at e;unfold qnb;by_cases h1:x.Kind=1
 ·rw[if_pos h1]at e;simp[qfe,Fr.Aa,e,h1]
 ·rw[if_neg h1]at e;by_cases h2:x.Kind=2
  ·rw[if_pos h2]at e;simp[qfe,Fr.Aa,e,h1,h2]
  ·rw[if_neg h2]at e;by_cases h3:x.Kind=3
   ·rw[if_pos h3]at e;simp[qfe,Fr.Aa,e,h1,h2,h3]
   ·rw[if_neg h3]at e;by_cases h4:x.Kind=4
    ·rw[if_pos h4]at e;simp[qfe,Fr.Aa,e,h1,h2,h3]
    ·rw[if_neg h4]at e;simp[qfe,Fr.Aa,e,h1,h2,h3]
def qPM(T:Tab)(hU:HU T)(hQ:HQ T)(x:Aq)(n:Int):T.ref 856 [.d x.dv,.p 0 0 0] [some (.box K0 (.d (I n)))]=some (.d (.b (qnb n x)),[some (.box K0 (.d (I n)))]):=by
 rw[qbW T (hQ 856 qml rfl) rfl];have hH:Cl [some (.box K0 (.d (I n)))]:=λr h=>by simp[qae,qav,Obj.refs,PV.refs]at h
 have e:=qSb T hU hQ x n
 simp[qml,Fr.Aa,e,qbh];exact (qeT hH [some (.box (K1 7) (.d x.dv))] _)
def qPL{α:Type}(T:Tab)(hQ:HQ T)(g:Nat)(dv:α->DV)(p:α->CG)(c:PV)(cs:Cu)(H0:CP)(hH:Cl H0)(hc:∀r∈PV.AL (c::cs),r<H0.length)(l:CF α)(hv:∀x∈l,T.ref g (.d (dv x)::c::cs) H0=some (.d (.b (p x)),H0))(s:CG)(hn:l.length<=maxLen) :
  T.ref 855 [.d (.l (K1 7) (l.map dv) s),.f g (c::cs)] H0=some (.d (.b (l.any p)),H0):=by
 rw[qbW T (hQ 855 qmk rfl) rfl];have e:=qqy T (hQ 724 qol rfl) g dv p c cs H0 hH hc l hv s hn
 have e2:=qsW p l
 simp[qmk,Fr.Aa,e,e2,qbh,qeT hH,qnj hH]
def qnc(l:CF Aq)(acc day n:Int):CG:=(l.filter (qbs acc day)).any (qnb n)
def qDq(T:Tab)(hU:HU T)(hQ:HQ T)(l:CF Aq)(t:CG)(acc day n:Int)(hn:l.length<=100000):T.val 767 [.l (K1 7) (l.map Aq.dv) t,I acc,I day,I n]=some (.d (.b (qnc l acc day n)),false):=by
 rw[qab T (hQ 767 qmh rfl) rfl];have e:=qDs T hU l t acc day hn
 have hl:(l.filter (qbs acc day)).length<=maxLen:=by
  have h1:=List.length_filter_le (qbs acc day) l
  have h2:maxLen=9223372036854775807:=rfl
  omega
 have hH:Cl [some (.box K0 (.d (I n)))]:=λr h=>by simp[qae,qav,Obj.refs,PV.refs]at h
 have e1:=qPL T hQ 856 Aq.dv (qnb n) (.p 0 0 0) [] [some (.box K0 (.d (I n)))] hH (by simp[PV.refs,PV.AL]) (l.filter (qbs acc day)) (λa _=>qPM T hU hQ a n) false hl
 simp[qmh,Fr.Aa,e,e1,qnc]
def qPI(T:Tab)(hT:HU T)(j:CF Af)(t:CG)(acc:Int)(k0 k1 k2 k3:K)(v0 v1 v2 v3:DV):T.ref 50 [.d (.l (K1 10) (j.map Af.dv) t),.d (I acc)] [some (.box k0 (.d v0)),some (.box k1 (.d v1)),some (.box k2 (.d v2)),some (.box k3 (.d v3))]=some (.f 59 [.p 4 0 0,.p 5 0 0],[some (.box k0 (.d v0)),some (.box k1 (.d v1)),some (.box k2 (.d v2)),some (.box k3 (.d v3)),some (.box K0 (.d (.l (K1 10) (j.map Af.dv) t))),some (.box K0 (.d (I acc)))]):=by
  rw[qbW T (hT 50 F50 rfl) rfl];simp[F50,Fr.Aa,qbh,gcV,qap,qae,qav,Obj.refs,PV.refs,PV.AL,qaG,gcH,PV.ren,PV.Bt,Obj.ren,Heap.obj,zzd]
abbrev DC:=Int×Int
def fTo(frm upto:Int)(s:DC)(e:Af)(x:Ac):DC:=if e.AU<frm\/upto<e.AU then s else if 0<x.Amount then (w64 (s.1+x.Amount),s.2)else (s.1,w64 (s.2-x.Amount))
def qeU(frm upto:Int)(j:CF Af)(t:CG)(acc:Int)(s:DC):CP:=[some (.box K0 (.d (I frm))),some (.box K0 (.d (I upto))),some (.box K0 (.d (I s.1))),some (.box K0 (.d (I s.2))),some (.box K0 (.d (.l (K1 10) (j.map Af.dv) t))),some (.box K0 (.d (I acc))),some (.lp 0 none),some .df]
def qK3(T:Tab)(_hT:HU T)(frm upto:Int)(j:CF Af)(t:CG)(acc:Int):MvY (qit T.env qrv qrw [(11,.p 3 0 0),(10,.p 2 0 0),(7,.p 1 0 0),(6,.p 0 0 0)] 6 [17,18]) DC (qeU frm upto j t acc) 8 6 4 5 j t acc (λ_=>True) (fTo frm upto) where
  len _:=rfl
  cl _:=by intro r h;simp[qeU,qae,qav,Obj.refs,PV.refs]at h
  oj _ _:=rfl
  oa _ _:=rfl
  lo:=⟨by decide,by decide,by decide⟩
  hp _ _ _ _ _ _:=trivial
  y s e x _ _ _ _:=by
    rw[quz rfl rfl];simp[qrv,qrw,qeU,qdx];repeat' (refine qaX (λh=>?_) (λh=>?_)<;>(try simp at h)<;>(try simp[h]))
    all_goals first
      | (have ef:fTo frm upto s e x=s:=by rw[fTo,if_pos (by omega)]
         rw[ef];exact qkP (H:=qeU frm upto j t acc s++[some (.box (K1 10) (.d e.dv)),some (.box (K1 3) (.d x.dv))]) (by intro r h;simp[qeU,qae,qav,Obj.refs,PV.refs]at h) (v:=.d (.b true)) (by simp[PV.refs]))
      | (have ef:fTo frm upto s e x=(w64 (s.1+x.Amount),s.2):=by rw[fTo,if_neg (by omega),if_pos (by omega)]
         rw[ef];exact qkP (H:=qeU frm upto j t acc (w64 (s.1+x.Amount),s.2)++[some (.box (K1 10) (.d e.dv)),some (.box (K1 3) (.d x.dv))]) (by intro r h;simp[qeU,qae,qav,Obj.refs,PV.refs]at h) (v:=.d (.b true)) (by simp[PV.refs]))
      | (have ef:fTo frm upto s e x=(s.1,w64 (s.2-x.Amount)):=by rw[fTo,if_neg (by omega),if_neg (by omega)]
         rw[ef];exact qkP (H:=qeU frm upto j t acc (s.1,w64 (s.2-x.Amount))++[some (.box (K1 10) (.d e.dv)),some (.box (K1 3) (.d x.dv))]) (by intro r h;simp[qeU,qae,qav,Obj.refs,PV.refs]at h) (v:=.d (.b true)) (by simp[PV.refs]))
def qSk(T:Tab)(hT:HU T)(hV:HV T)(l:CF Af)(t:CG)(acc frm upto:Int)(hn:l.length<=maxLen)(ho:∀e∈l,e.Ad.l.length<=maxLen):T.val 882 [.l (K1 10) (l.map Af.dv) t,I acc,I frm,I upto]=some (.t [.d (I (qaj (mvE acc (fTo frm upto)) 0 (0,0) l).1),.d (I (qaj (mvE acc (fTo frm upto)) 0 (0,0) l).2)],false):=by
  rw[qab T (hV 882 qmn rfl) rfl];have e:=qPI T hT l t acc K0 K0 K0 K0 (I frm) (I upto) (I 0) (I 0)
  have e2:=qs5 T hT (qK3 T hT frm upto l t acc) hn ho (0,0) trivial
  simp[qmn,Fr.Aa,e,↓qs6,↓quA,qsn,Fr.only];refine (congrArg (λz=>bo z _) e2).trans ?_
  simp[qli,qeU,fin,Bo,↓qcp,↓qcq,↓qb7,↓qbY,qb9,↓qb1,↓qb0,qbr,AA,AP,qaE,qa8,chg,qbj,runs,qa6,qbg,PV.refs,IOp.okD,Nat.testBit];try rfl
def qjV(j:CF Af)(acc frm upto:Int):DC:=qaj (mvE acc (fTo frm upto)) 0 (0,0) j
def qSl(T:Tab)(hT:HU T)(hV:HV T)(l:CF Af)(t:CG)(acc frm upto:Int)(hn:l.length<=maxLen)(ho:∀e∈l,e.Ad.l.length<=maxLen):T.val 882 [.l (K1 10) (l.map Af.dv) t,I acc,I frm,I upto]=some (.t [.d (I (qjV l acc frm upto).1),.d (I (qjV l acc frm upto).2)],false):=qSk T hT hV l t acc frm upto hn ho
def qdt(s:Int):Cw->Cw
 |[]=>[]
 |x::r=>w64 (s+x)::qdt (w64 (s+x)) r
def qqt:∀(l:Cw) (s:Int),(qdt s l).length=l.length
 |[],_=>rfl
 |x::l,s=>by simp[qdt,qqt l]
def psP(s:Int):Nat->Cw->Cw
 |_,[]=>[]
 |0,l=>l
 |i+1,x::r=>w64 (s+x)::psP (w64 (s+x)) i r
def qqs:∀(l:Cw) (s:Int) (i:Nat),(psP s i l).length=l.length
 |[],s,i=>by cases i<;>rfl
 |x::l,s,0=>rfl
 |x::l,s,i+1=>by simp[psP,qqs l]
def qBA:∀(l:Cw) (s:Int) (i:Nat),l.length<=i->psP s i l=qdt s l
 |[],s,i,_=>by cases i<;>rfl
 |x::l,s,0,h=>by simp at h
 |x::l,s,i+1,h=>by simp only[psP,qdt];rw[qBA l _ i (by simpa using h)]
def qBz(l:Cw)(s:Int):psP s 0 l=l:=by cases l<;>rfl
def qBB:∀(l:Cw) (s:Int) (i:Nat) (h:i+1<(psP s (i+1) l).length),(psP s (i+1) l).set (i+1) (w64 ((psP s (i+1) l)[i+1]+(psP s (i+1) l)[i]))=psP s (i+2) l
 |[],s,i,h=>by simp[psP]at h
 |[x],s,i,h=>by simp[qqs]at h
 |x::y::l,s,0,h=>by
  simp only[psP,List.set_cons_succ,List.set_cons_zero,zzG,List.getElem_cons_zero,qBz];rw[show w64 (y+w64 (s+x))=w64 (w64 (s+x)+y)by rw[Int.add_comm]]
 |x::y::l,s,i+1,h=>by
  have ih:=qBB (y::l) (w64 (s+x)) i (by rw[qqs]at h⊢;simp at h⊢;omega)
  have a:psP s (i+1+1) (x::y::l)=w64 (s+x)::psP (w64 (s+x)) (i+1) (y::l):=rfl
  have b:psP s (i+1+2) (x::y::l)=w64 (s+x)::psP (w64 (s+x)) (i+2) (y::l):=rfl
  simp only[a,b,List.set_cons_succ,zzG];exact congrArg _ ih
def qPc(l:Cw)(h:∀x∈l,w64 x=x):psP 0 1 l=l:=by
 cases l with
 |nil=>rfl
 |cons x r=>simp only[psP,Int.zero_add,qBz];rw[h x (zzr ..)]
def dOf(frm v:Int):Nat:=(max frm v-frm).toNat
def fDa(frm upto:Int)(es:Cw)(e:Af)(x:Ac):Cw:=if e.Value<=upto then (match es[dOf frm e.Value]? with|some v=>es.set (dOf frm e.Value) (w64 (v-x.Amount))|none=>es)else es
def qsv{frm upto:Int}{es:Cw}{e:Af}{x:Ac}:(fDa frm upto es e x).length=es.length:=by
 unfold fDa;split
 ·split
  ·simp
  ·rfl
 ·rfl
def qdD(frm upto:Int)(j:CF Af)(t:CG)(acc:Int)(n:Nat)(es:Cw):CP:=[some (.box K0 (.d (I frm))),some (.box K0 (.d (I upto))),some (.sl K0 0 (es.map I)),some (.box K0 (.r 2 K0 0 n false)),some (.box K0 (.d (.l (K1 10) (j.map Af.dv) t))),some (.box K0 (.d (I acc))),some (.lp 0 none),some .df]
def qPJ(T:Tab)(hT:HU T)(j:CF Af)(t:CG)(acc frm upto:Int)(n:Nat)(es:Ct):T.ref 50 [.d (.l (K1 10) (j.map Af.dv) t),.d (I acc)] [some (.box K0 (.d (I frm))),some (.box K0 (.d (I upto))),some (.sl K0 0 es),some (.box K0 (.r 2 K0 0 n false))]=some (.f 59 [.p 4 0 0,.p 5 0 0],[some (.box K0 (.d (I frm))),some (.box K0 (.d (I upto))),some (.sl K0 0 es),some (.box K0 (.r 2 K0 0 n false)),some (.box K0 (.d (.l (K1 10) (j.map Af.dv) t))),some (.box K0 (.d (I acc)))]):=by
 rw[qbW T (hT 50 F50 rfl) rfl];simp[F50,Fr.Aa,qbh,gcV,qap,qae,qav,Obj.refs,PV.refs,PV.AL,qaG,gcH,PV.ren,PV.Bt,Obj.ren,Heap.obj,zzd]
def qK0(T:Tab)(_hT:HU T)(frm upto:Int)(j:CF Af)(t:CG)(acc:Int)(n:Nat)(h1:qa3 frm=true)(h2:qa3 upto=true)(h3:frm<=upto)(hn:(n:Int)=upto-frm+1):MvY (qit T.env qoC qoD [(9,.p 3 0 0),(7,.p 1 0 0),(6,.p 0 0 0)] 6 [40,41]) (Cw) (qdD frm upto j t acc n) 8 6 4 5 j t acc (λes=>es.length=n) (fDa frm upto) where
 len _:=rfl
 cl _:=by intro r h;simp[qdD,qae,qav,Obj.refs,PV.refs]at h;subst h;simp[qdD]
 oj _ _:=rfl
 oa _ _:=rfl
 lo:=⟨by decide,by decide,by decide⟩
 hp _ _ _ h _ _:=by rw[qsv];exact h
 y es e x hl _ _ _:=by
  simp only[qa3,zzf,zzq]at h1 h2;rw[quz rfl rfl];by_cases hv:e.Value<=upto
  ·obtain⟨m,hm⟩:∃m,max frm e.Value=m:=⟨_,rfl⟩;have hm1:frm<=m/\m<=upto:=by omega
   obtain⟨k,hk⟩:∃k,dOf frm e.Value=k:=⟨_,rfl⟩;have hk1:(k:Int)=m-frm:=by rw[<-hk,dOf,hm];omega
   have w:IntKind.i64.wrap (m-frm)=(k:Int):=(wrI (by omega) (by omega)).trans hk1.symm
   have hk':(k:Int)<n:=by omega
   have hke:k<es.length:=by omega
   have hg:es[k]? = some es[k]:=zze hke
   have ef:fDa frm upto es e x=es.set k (w64 (es[k]-x.Amount)):=by rw[fDa,if_pos hv,hk,hg]
   rw[ef];simp[qoC,qoD,qdD,qdx,hv,w,↓qbJ,-qcs,↓qiy,↓qjR,↓qix,↓qbX,hm,hl,hk',hg,↓qfX,zzj];have ms:∀v,(es.map I).set k (I v)=(es.set k v).map I:=λv=>List.map_set.symm
   rw[ms,ms];exact qeT (H:=qdD frm upto j t acc n (es.set k (w64 (es[k]-x.Amount)))++[some (.box (K1 10) (.d e.dv)),some (.box (K1 3) (.d x.dv))]) (by intro r h;simp[qdD,qae,qav,Obj.refs,PV.refs]at h;subst h;simp[qdD]) [some (.box (K1 10) (.d e.dv))] (.b true)
  ·have ef:fDa frm upto es e x=es:=by rw[fDa,if_neg hv]
   rw[ef];simp[qoC,qoD,qdD,qdx,hv];exact qeT (H:=qdD frm upto j t acc n es++[some (.box (K1 10) (.d e.dv)),some (.box (K1 3) (.d x.dv))]) (by intro r h;simp[qdD,qae,qav,Obj.refs,PV.refs]at h;subst h;simp[qdD]) [some (.box (K1 10) (.d e.dv))] (.b true)
def qKi(T:Tab)(es:Cw)(n:Nat)(hl:es.length=n)(hn:0<n)(hn2:n<5000)(hz:∀x∈es,w64 x=x){k:KC (PV×CG)}{fr:Fr}{H:CP}(h0:gc [9,12] 0 ⟨fr,H⟩=⟨[(100041,.g (.h 0)),(12,.d (I 1)),(9,.p 1 0 0)],[some .df,some (.box K0 (.r 2 K0 0 n false)),some (.sl K0 0 (es.map I))]⟩) :
  kC T.env 0 fr H (.h (.loop [9,12] qoE,k))=k (.exit 2) [(100041,.g (.h 0)),(61,.d (.b false)),(12,.d (I n)),(9,.p 1 0 0)] [some .df,some (.box K0 (.r 2 K0 0 n false)),some (.sl K0 0 ((qdt 0 es).map I))]:=by
 refine qil (λs:Nat×Cw=>⟨[(100041,.g (.h 0)),(12,.d (I s.1)),(9,.p 1 0 0)],[some .df,some (.box K0 (.r 2 K0 0 n false)),some (.sl K0 0 (s.2.map I))]⟩) (λi=>(i+1,psP 0 (i+1) es)) (n-1) ?_ ?_ (by rw[h0,qPc _ hz];rfl)
 ·intro B _;have e:n-1+1=n:=by omega
  have e2:psP 0 n es=qdt 0 es:=qBA _ _ _ (by omega)
  have e3:(qdt 0 es).length=n:=by rw[qqt,hl]
  simp only[e,e2];simp[qoE,e3]
 ·intro B _ i hi c hc;have hlen:(psP 0 (i+1) es).length=n:=by rw[qqs,hl]
  have hst:=qBB es 0 i (by omega)
  obtain⟨fs,hfs⟩:∃fs,psP 0 (i+1) es=fs:=⟨_,rfl⟩;have g5':i+1<fs.length:=by rw[<-hfs];omega
  have hst':psP 0 (i+1+1) es=fs.set (i+1) (w64 (fs[i+1]+fs[i])):=by subst hfs;exact hst.symm
  simp only[hfs]at hlen;clear hst
  simp only[hst']at hc;simp only[hfs];have g1:(i:Int)+1<n:=by omega
  have g2:i+1<n:=by omega
  have g3:i<n:=by omega
  have g4:(i:Int)<n:=by omega
  have g5:i+1<fs.length:=by omega
  have g6:i<fs.length:=by omega
  have g7:(0:Int)<=(i:Int)+1:=by omega
  have g8:((i:Int)+1).toNat=i+1:=by omega
  have w1:IntKind.i64.wrap ((i:Int)+1-1)=i:=by rw[wrI (by omega) (by omega)];omega
  have w1':IntKind.i64.wrap (i:Int)=i:=wrI (by omega) (by omega)
  have w2:IntKind.i64.wrap ((i:Int)+1+1)=(i:Int)+1+1:=wrI (by omega) (by omega)
  simp[qoE,↓qcp,↓qcq,↓qb7,↓qdH,↓qbY,qb9,↓qb1,↓qb0,↓qdB,↓qcd,↓qc2,qbr,AA,AP,qaE,qa8,chg,qbj,runs,qa6,qbg,PV.refs,IOp.okD,Nat.testBit,hlen,g1,g2,g3,g4,g7,w1',w2,↓qbJ,-qcs,↓qiy,↓qix,↓qbX];refine hc _ _ ?_;rw[show ∀v,(fs.map I).set (i+1) (DV.i .i64 v)=(fs.set (i+1) v).map I from λv=>List.map_set.symm]
  simp[gc,Fr.keep,qap,qam,qae,PV.refs,qaG,gcH,qav,Obj.refs,PV.ren,Obj.ren,Heap.obj,Fr.ren,gh,zzd,w64]
def qnP(frm upto:Int):CG:=qa3 frm&&(qa3 upto&&(decide (frm<=upto)&&decide (upto-frm<4000)))
def zer(frm upto:Int):Cw:=List.replicate (upto-frm+1).toNat 0
def qjd(j:CF Af)(acc frm upto:Int):Cw:=if qnP frm upto=true then qdt 0 (qaj (mvE acc (fDa frm upto)) 0 (zer frm upto) j)else []
def qGt{frm upto:Int}{es:Cw}{e:Af}{x:Ac}(h:∀y∈es,w64 y=y):∀y∈fDa frm upto es e x,w64 y=y:=by
 intro y hy;unfold fDa at hy;split at hy
 ·split at hy
  ·rcases List.mem_or_eq_of_mem_set hy with hy|rfl
   ·exact h y hy
   ·exact qDB _
  ·exact h y hy
 ·exact h y hy
def qqb{acc frm upto:Int}(P:Cw->Prop)(hP:∀es e x,P es->P (fDa frm upto es e x)):∀(j:CF Af) (i:Nat) (es:Cw),P es->P (qaj (mvE acc (fDa frm upto)) i es j)
 |[],_,_,h=>h
 |e::j,i,es,h=>by
  rw[qaj];refine qqb P hP j _ _ ?_;have:∀(l:CF Ac) (i:Nat) (es:Cw),P es->P (qaj (mvL acc (fDa frm upto) e) i es l):=by
   intro l;induction l with
   |nil=>intro _ _ h;exact h
   |cons x l ih=>
    intro i es h;rw[qaj];refine ih _ _ ?_;unfold mvL;split
    ·exact hP _ _ _ h
    ·exact h
  exact this _ _ _ h
def qSh(T:Tab)(hT:HU T)(hV:HV T)(j:CF Af)(t:CG)(acc frm upto:Int)(hn:j.length<=maxLen)(ho:∀e∈j,e.Ad.l.length<=maxLen):T.val 880 [.l (K1 10) (j.map Af.dv) t,I acc,I frm,I upto]=some (.d (.l K0 ((qjd j acc frm upto).map I) false),true):=by
 rw[qab T (hV 880 qkf rfl) rfl];have e1:=qqS T hV frm
 have e2:=qqS T hV upto
 by_cases hok:qnP frm upto=true
 ·have hd:qjd j acc frm upto=qdt 0 (qaj (mvE acc (fDa frm upto)) 0 (zer frm upto) j):=by rw[qjd,if_pos hok]
  rw[hd];simp only[qnP,zzf,zzq]at hok;obtain⟨h1,h2,h3,h4⟩:=hok;rw[h1]at e1;rw[h2]at e2;obtain⟨h1a,h1b⟩:0<=frm/\frm<=73048:=by simpa[qa3]using h1
  obtain⟨h2a,h2b⟩:0<=upto/\upto<=73048:=by simpa[qa3]using h2
  obtain⟨n,hnn⟩:∃n:Nat,(n:Int)=upto-frm+1:=⟨(upto-frm+1).toNat,by omega⟩
  have w1:IntKind.i64.wrap (upto-frm)=upto-frm:=wrI (by omega) (by omega)
  have w2:IntKind.i64.wrap (upto-frm+1)=(n:Int):=by rw[wrI (by omega) (by omega)];omega
  have g1:¬upto<frm:=by omega
  have g2:¬(4000<=upto-frm):=by omega
  have g3:(n:Int)*8<=140737488355328:=by omega
  have hz:(upto-frm+1).toNat=n:=by omega
  have e3:=qPJ T hT j t acc frm upto n (List.replicate n (I 0))
  have e4:=qs5 T hT (qK0 T hT frm upto j t acc n h1 h2 h3 hnn) hn ho (List.replicate n 0) (by simp)
  have hS:zer frm upto=List.replicate n 0:=by rw[zer,hz]
  rw[hS];have hlen:(qaj (mvE acc (fDa frm upto)) 0 (List.replicate n 0) j).length=n:=qqb (λes=>es.length=n) (λes e x h=>by rw[qsv];exact h) j 0 _ (by simp)
  have hnr:∀y∈qaj (mvE acc (fDa frm upto)) 0 (List.replicate n 0) j,w64 y=y:=qqb (λes=>∀y∈es,w64 y=y) (λes e x h=>qGt h) j 0 _ (λy hy=>by rw[(List.mem_replicate.1 hy).2];rfl)
  generalize qaj (mvE acc (fDa frm upto)) 0 (List.replicate n 0) j=fs at *
  have lp:=λk fr H=>@qKi T fs n hlen (by omega) (by omega) hnr k fr H
  have hpl:(qdt 0 fs).length=n:=by rw[qqt,hlen]
  simp[qkf,Fr.Aa,e1,e2,w1,w2,g1,g2,g3,qE3,qwY,qpp,e3,↓qs6,↓quA,qsn,Fr.only];simp only[qdD,List.map_replicate]at e4;refine (congrArg (λz=>bo z _) e4).trans ?_
  simp[qli];refine (lp _ _ _ (by simp[gc,Fr.keep,qap,qam,qae,PV.refs,qaG,gcH,qav,Obj.refs,PV.ren,Obj.ren,Heap.obj,Fr.ren,gh,zzd])).trans ?_
  have ht:((qdt 0 fs).map I).take n=(qdt 0 fs).map I:=zzv (by simp[hpl])
  simp[fin,Bo,hpl,ht]
 ·have hd:qjd j acc frm upto=[]:=by rw[qjd,if_neg hok]
  rw[hd];simp only[qnP,zzf,zzq]at hok;have w1:qa3 frm=true->qa3 upto=true->IntKind.i64.wrap (upto-frm)=upto-frm:=by
   intro a b;simp[qa3]at a b;exact wrI (by omega) (by omega)
  obtain⟨a,ha⟩:∃a,qa3 frm=a:=⟨_,rfl⟩;obtain⟨b,hb⟩:∃b,qa3 upto=b:=⟨_,rfl⟩;rw[ha]at e1 hok w1;rw[hb]at e2 hok w1;cases a<;>cases b<;>simp only[forall_const,zzg,false_imp_iff]at w1
  all_goals simp[qkf,Fr.Aa,e1,e2]
  repeat' (refine qaX (λh=>?_) (λh=>?_)<;>(try simp at h)<;>(try simp[h,w1]))
  all_goals (simp at hok;omega)
def dly(j:CF Af)(acc frm upto:Int):Cw:=qjd j acc frm upto
def qF6(j:CF Af)(acc frm upto:Int):(dly j acc frm upto).length<=4000:=by
 unfold dly qjd;split
 ·rename_i hok;simp only[qnP,qa3,zzf,zzq]at hok;rw[qqt,qqb (λes=>es.length=(upto-frm+1).toNat) (λes e x h=>by rw[qsv];exact h) j 0 _ (by simp[zer])]
  omega
 ·simp
def qSi(T:Tab)(hT:HU T)(hV:HV T)(j:CF Af)(t:CG)(acc frm upto:Int)(hn:j.length<=maxLen)(ho:∀e∈j,e.Ad.l.length<=maxLen):T.val 880 [.l (K1 10) (j.map Af.dv) t,I acc,I frm,I upto]=some (.d (.l K0 ((dly j acc frm upto).map I) false),true):=qSh T hT hV j t acc frm upto hn ho
section
def qSn(T:Tab)(hV:HV T)(n:Int):T.val 884 [I n]=some (.d (.a [I 2,I n]),false):=by
 rw[qab T (hV 884 qmp rfl) rfl];simp[qmp,Fr.Aa,qay,qaC,qaB,qaw,putAt,mkA,qau]
def qSo(T:Tab)(hV:HV T)(n:Int):T.val 885 [I n]=some (.d (.a [I 1,I n]),false):=by
 rw[qab T (hV 885 qmq rfl) rfl];simp[qmq,Fr.Aa,qay,qaC,qaB,qaw,putAt,mkA,qau]
def wth(n b:Int):CG:=decide (-b<=n)&&decide (n<=b)
def V2(p:Int×Int):DV:=.a [I p.1,I p.2]
abbrev MA:Int:=1000000000000
noncomputable def qiU(b:Ap)(a:AC)(id day amount:Int):Cw:=[ofR b.Ar.l id,qeZ (dly b.Ar.l id (max (mst day) a.BN) day),(qjV b.Ar.l id (mst day) day).1,amount]
noncomputable def qcK(b:Ap)(id day amount:Int):CF (Int×Int)×Int:=match qcL b id with
 |none=>([],11)
 |some a=>if (qa3 day&&qiT b id day)=true then (if ((qiU b a id day amount).all λn=>wth n MA)=true then ((qiU b a id day amount).map (λn=>(2,n))++[(1,qja b.Ar.l id (mst day) day),(1,w64 (day-a.BN)),(4,day)],0)else ([],6))else ([],16)
attribute [local simp ↓ 2000] qI1
def qKf(T:Tab)(a:AC)(day amount _frm now low vol cnt:Int)(l:Cw)(hn:l.length<=maxLen){k:KC (PV×CG)}{r:Cz}{fr:Fr}{H:CP}
  (hr:∀fr H,fr.get 8=.d (.l (K1 2) [] true)->fr.get 9=.d (I 6)->qan fr=[]->k .ret fr H=r)
  (h0:gc [2,3,10,13,14,16,18,103,104,105] 0 ⟨fr,H⟩=⟨[(105,.d (I 0)),(104,.d (I l.length)),(103,.r 0 K0 0 l.length true),(18,.d (I cnt)),(16,.d (I vol)),(14,.d (I low)),(13,.d (I now)),(10,.p 1 0 0),(3,.d (I amount)),(2,.d (I day))],[some (.sl K0 0 (l.map I)),some (.box (K1 7) (.d a.dv))]⟩) :
  kC T.env 0 fr H (.h (.loop [2,3,10,13,14,16,18,103,104,105] qrr,k))=brn (l.all λn=>wth n MA) (.h (k (.exit 3) [(106,.d (.b false)),(105,.d (I l.length)),(104,.d (I l.length)),(103,.r 0 K0 0 l.length true),(18,.d (I cnt)),(16,.d (I vol)),(14,.d (I low)),(13,.d (I now)),(10,.p 1 0 0),(3,.d (I amount)),(2,.d (I day))] [some (.sl K0 0 (l.map I)),some (.box (K1 7) (.d a.dv))],r)):=by
 have hm:=mxl
 rw[qbi l (λi _=>⟨[(105,.d (I i)),(104,.d (I l.length)),(103,.r 0 K0 0 l.length true),(18,.d (I cnt)),(16,.d (I vol)),(14,.d (I low)),(13,.d (I now)),(10,.p 1 0 0),(3,.d (I amount)),(2,.d (I day))],[some (.sl K0 0 (l.map I)),some (.box (K1 7) (.d a.dv))]⟩) (λ_ _=>True) (λi _ x c=>if wth x MA=true then c ()else r) (λ_=>k (.exit 3) [(106,.d (.b false)),(105,.d (I l.length)),(104,.d (I l.length)),(103,.r 0 K0 0 l.length true),(18,.d (I cnt)),(16,.d (I vol)),(14,.d (I low)),(13,.d (I now)),(10,.p 1 0 0),(3,.d (I amount)),(2,.d (I day))] [some (.sl K0 0 (l.map I)),some (.box (K1 7) (.d a.dv))]) ?_ ?_ h0 trivial]
 ·rw[qht (λn=>wth n MA) r]
  ·cases l.all λn=>wth n MA<;>rfl
  ·exact λ_ _ _ _=>rfl
 ·intro B _ _ _;simp[qrr]
 ·intro B _ i _ hi _ c hc;have h1:(i:Int)<l.length:=by omega
  have h3:=wr1 (i:=i) (by omega)
  have hw:wth l[i] MA=(decide (-1000000000000<=l[i])&&decide (l[i]<=1000000000000)):=rfl
  rw[hw];simp[qrr,h1,hi,↓qbJ,↓qbX];repeat' (refine qaX (λh=>?_) (λh=>?_)<;>(try simp at h)<;>(try simp[h,h3]))
  all_goals first
   | (rw[if_neg (by simp;omega)];exact hr _ _ (by simp[Fr.get]) (by simp[Fr.get]) (by simp[qan,gh]))
   | (rw[if_pos (by simp;omega)];exact hc () _ _ trivial (by simp[gc,Fr.keep,qap,qam,qae,PV.refs,PV.AL,qaG,gcH,qav,Obj.refs,PV.ren,PV.Bt,Obj.ren,Heap.obj,Fr.ren,gh,zzd]))
   |exact hr _ _ (by simp[Fr.get]) (by simp[Fr.get]) (by simp[qan,gh])
   |exact hc () _ _ trivial (by simp[gc,Fr.keep,qap,qam,qae,PV.refs,qaG,gcH,qav,Obj.refs,PV.ren,Obj.ren,Heap.obj,Fr.ren,gh,zzd])
def qSa(T:Tab)(hU:HU T)(hV:HV T)(b:Ap)(id day amount:Int)(hb:b.ok):T.val 801 [b.dv,I id,I day,I amount]=some (.t [.d (.l (K1 2) ((qcK b id day amount).1.map V2) (qcK b id day amount).1.isEmpty),.d (I (qcK b id day amount).2)],false):=by
 rw[qab T (hV 801 F801 rfl) rfl];have e:=qof T hU b id hb
 have e1:=qqS T hV day
 have e2:=qvJ T hV hU b id day hb
 unfold qcK;cases hf:qcL b id with
 |none=>
  rw[hf]at e;simp only[Option.getD_none,Option.isSome_none]at e;simp[F801,Fr.Aa,e,qaK,pur,qaW]
 |some a=>
  rw[hf]at e;simp only[zzA,Option.isSome_some]at e;obtain⟨v,hv⟩:∃v,qa3 day=v:=⟨_,rfl⟩;obtain⟨q,hq⟩:∃q,qiT b id day=q:=⟨_,rfl⟩;rw[hv]at e1;rw[hq]at e2;simp only[hv,hq];cases v with
  |false=>simp[F801,Fr.Aa,e,e1,qaK,pur,qaW]
  |true=>
   cases q with
   |false=>simp[F801,Fr.Aa,e,e1,e2,qaK,pur,qaW]
   |true=>
    have hj:=(hb.2.2.2.2.2.2.1)
    have ho:∀e∈b.Ar.l,e.Ad.l.length<=maxLen:=λe he=>((hj.2 e he).2.2.2.2.2.2.2.2.1).1
    have e3:=qSg T hV day hv
    have e4:=qSl T hU hV b.Ar.l b.Ar.t id (mst day) day hj.1 ho
    have e5:=qSi T hU hV b.Ar.l b.Ar.t id (max (mst day) a.BN) day hj.1 ho
    have e6:∀x r,dly b.Ar.l id (max (mst day) a.BN) day=x::r->T.val 881 [.l K0 ((x::r).map I) false]=some (.d (I (qeZ (x::r))),false):=λx r h=>qSj T hV x r false (by have:=qF6 b.Ar.l id (max (mst day) a.BN) day;rw[h]at this;simp at this;have:maxLen=9223372036854775807:=rfl;omega)
    have e7:=qvQ T hU b.Ar.l b.Ar.t id hj.1 ho
    rw[qtW]at e7;have c1:=λn=>qSn T hV n
    have c2:=λn=>qSo T hV n
    have lp0:=λnow low vol k fr H=>@qKe T hV a b.Ar.l b.Ar.t id (mst day) day amount now low vol hj.1 hj.2 k fr H
    obtain⟨am,ham⟩:∃l,qiU b a id day amount=l:=⟨_,rfl⟩;obtain⟨ok,hok⟩:∃q,(am.all λn=>wth n MA)=q:=⟨_,rfl⟩
    have hl:am.length=4:=by rw[<-ham];rfl
    have lp:=λnow low vol cnt k r fr H=>@qKf T a day amount (mst day) now low vol cnt am (by rw[hl];decide) k r fr H
    simp only[hok]at lp;simp only[ham,hok];cases hd:dly b.Ar.l id (max (mst day) a.BN) day with
    |nil=>
     rw[hd]at e5;simp only[List.map_nil]at e5;simp[F801,Fr.Aa,e,e1,e2,e3,e4,e5,e7,↓qfX];refine (lp0 (ofR b.Ar.l id) 0 (qjV b.Ar.l id (mst day) day).1 _ _ _ (by simp[gc,Fr.keep,qap,qam,qae,PV.refs,qaG,gcH,qav,Obj.refs,PV.ren,Obj.ren,Heap.obj,Fr.ren,gh,zzd])).trans ?_
     simp[qcY,qc1,qc0];refine (lp (ofR b.Ar.l id) 0 (qjV b.Ar.l id (mst day) day).1 (qja b.Ar.l id (mst day) day) _ (some (.t [.d (.l (K1 2) [] true),.d (I 6)],false)) _ _ ?_ ?_).trans ?_
     ·intro fr H h8 h9 hg;simp[h8,h9,hg,qb4,qaK,pur,qaW]
     ·simp[gc,Fr.keep,qap,qam,qae,PV.refs,qaG,gcH,qav,Obj.refs,PV.ren,Obj.ren,Heap.obj,Fr.ren,gh,zzd,<-ham,qiU,hd,qeZ,qja]
     ·refine qaX (λh=>?_) (λh=>?_)
      ·subst h;simp[↓qcp,↓qcq,↓qb7,↓qbY,qb9,↓qb1,↓qdh,↓qdi,↓qb0,↓qcd,↓qcm,qbr,AA,AP,qaE,qa8,chg,qbj,runs,qa6,qbg,PV.refs,IOp.okD,Nat.testBit,↓qh3,↓qh1,qaf,c1,c2,qay,qaC,qaB,qaw,putAt,mkA,qau,qcY,qc1,qc0,qaK,pur,qaW];simp[<-ham,qiU,hd,qeZ,V2,w64,qja]
      ·subst h;simp
    |cons x r=>
     have e6':=e6 x r hd
     rw[hd]at e5;simp only[zzu]at e5 e6';have hpos:(0:Int)<(r.length:Int)+1:=by omega
     simp[F801,Fr.Aa,e,e1,e2,e3,e4,e5,e6',e7,↓qfX,hpos];refine (lp0 (ofR b.Ar.l id) (qeZ (x::r)) (qjV b.Ar.l id (mst day) day).1 _ _ _ (by simp[gc,Fr.keep,qap,qam,qae,PV.refs,qaG,gcH,qav,Obj.refs,PV.ren,Obj.ren,Heap.obj,Fr.ren,gh,zzd])).trans ?_
     simp[qcY,qc1,qc0];refine (lp (ofR b.Ar.l id) (qeZ (x::r)) (qjV b.Ar.l id (mst day) day).1 (qja b.Ar.l id (mst day) day) _ (some (.t [.d (.l (K1 2) [] true),.d (I 6)],false)) _ _ ?_ ?_).trans ?_
     ·intro fr H h8 h9 hg;simp[h8,h9,hg,qb4,qaK,pur,qaW]
     ·simp[gc,Fr.keep,qap,qam,qae,PV.refs,qaG,gcH,qav,Obj.refs,PV.ren,Obj.ren,Heap.obj,Fr.ren,gh,zzd,<-ham,qiU,hd,qeZ,qja]
     ·refine qaX (λh=>?_) (λh=>?_)
      ·subst h;simp[↓qcp,↓qcq,↓qb7,↓qbY,qb9,↓qb1,↓qdh,↓qdi,↓qb0,↓qcd,↓qcm,qbr,AA,AP,qaE,qa8,chg,qbj,runs,qa6,qbg,PV.refs,IOp.okD,Nat.testBit,↓qh3,↓qh1,qaf,c1,c2,qay,qaC,qaB,qaw,putAt,mkA,qau,qcY,qc1,qc0,qaK,pur,qaW];simp[<-ham,qiU,hd,qeZ,V2,w64,qja]
      ·subst h;simp
end
section
attribute [local simp ↓] qcp qcq qb7 qdH qcN qew qbY qb1 qdj qdV qdW qdh qdi qb0 qdB qcd qd1 qd0 qd7 qej qdZ qeh qeg qcm qd3 qc2 qd4 qd6 qd5 qd8 qd2 qea qec qef qee qed qd9 qeb qei qdX qdY
attribute [local simp] qb9 qbr AA AP qaE qa8 chg qbj runs qa6 qbg PV.refs PV.AL IOp.okD IOp.barr qci Nat.testBit
attribute [local simp] gc Fr.keep qap qam qae PV.refs PV.AL qaG gcH qav Obj.refs PV.ren PV.Bt Obj.ren Heap.obj Fr.ren gh zzd
section
variable {E:Env}{k:KC (PV × CG)}{fr:Fr}{H:CP}{r:Cz}
def qJ8(v s u x a14:Int)
  (he1:∀rh,k (.exit 0) [(78,.d (.b false)),(16,.d (.i .u64 rh)),(15,.d (.i .u64 ((u*4294967296+x)/v))),(14,.d (.i .u64 a14)),(13,.d (.i .u64 x)),(11,.d (.i .u64 u)),(10,.d (.i .u64 (v%4294967296))),(9,.d (.i .u64 (v/4294967296))),(8,.d (.i .u64 s)),(2,.d (.i .u64 v))] []=r)
  (he2:∀rh,k (.exit 0) [(85,.d (.b true)),(78,.d (.b true)),(16,.d (.i .u64 rh)),(15,.d (.i .u64 ((u*4294967296+x)/v))),(14,.d (.i .u64 a14)),(13,.d (.i .u64 x)),(11,.d (.i .u64 u)),(10,.d (.i .u64 (v%4294967296))),(9,.d (.i .u64 (v/4294967296))),(8,.d (.i .u64 s)),(2,.d (.i .u64 v))] []=r)
  (q0 r0:Int) (hq:Dig v u x q0 r0) (hr:r0<4294967296)
  (h0:gc [2,8,9,10,11,13,14,15,16] 0 ⟨fr,H⟩=⟨[(16,.d (.i .u64 r0)),(15,.d (.i .u64 q0)),(14,.d (.i .u64 a14)),(13,.d (.i .u64 x)),(11,.d (.i .u64 u)),(10,.d (.i .u64 (v%4294967296))),(9,.d (.i .u64 (v/4294967296))),(8,.d (.i .u64 s)),(2,.d (.i .u64 v))],[]⟩) :
  kC E 0 fr H (.h (.loop [2,8,9,10,11,13,14,15,16] qkq,k))=r:=by
 refine qc7 (λp:Int×Int=>⟨[(16,.d (.i .u64 p.2)),(15,.d (.i .u64 p.1)),(14,.d (.i .u64 a14)),(13,.d (.i .u64 x)),(11,.d (.i .u64 u)),(10,.d (.i .u64 (v%4294967296))),(9,.d (.i .u64 (v/4294967296))),(8,.d (.i .u64 s)),(2,.d (.i .u64 v))],[]⟩) (λp=>Dig v u x p.1 p.2/\p.2<4294967296) (λp=>(4294967296-p.2).toNat) ?_ (q0,r0) ⟨hq,hr⟩ h0
 rintro B-⟨q,rh⟩ ⟨hd,hlt⟩ hx;simp only at hd hlt hx⊢;have hx':=λ(s':Int×Int)=>hx s'
 clear hx
 have hq0:0<=q:=Int.le_trans (qel hd.v0 hd.u0 hd.u1 hd.x0 hd.x1).1 hd.q0
 have hr0:=hd.r0
 have hv0:=hd.v0
 have hv1:=hd.v1
 have hx0:=hd.x0
 have hx1:=hd.x1
 have hq1:=hd.q1
 have more:(4294967296<=q\/4294967296*rh+x<q*(v%4294967296))->(4294967296<=rh+v/4294967296->q-1=(u*4294967296+x)/v)/\Dig v u x (q-1) (rh+v/4294967296)/\IntKind.u64.wrap (q-1)=q-1/\IntKind.u64.wrap (rh+v/4294967296)=rh+v/4294967296:=by
  intro hc;have hm:=qxB hd hc
  have hp:0<=q-1:=Int.le_trans (qel hd.v0 hd.u0 hd.u1 hd.x0 hd.x1).1 hm.q0
  exact⟨λh=>qxz hm h (by omega),hm,wrU hp (by omega),wrU (by omega) (by omega)⟩
 by_cases c1:4294967296<=q
 ·obtain⟨m1,m2,m3,m4⟩:=more (.inl c1);by_cases c2:4294967296<=rh+v/4294967296
  ·have:=m1 c2
   simp[qkq,c1,m3,m4,c2];rw[this];exact he2 _
  ·simp[qkq,c1,m3,m4,c2];refine hx' (q-1,rh+v/4294967296) ⟨m2,by omega⟩ (by simp only;omega) _ _ ?_
   simp
 ·obtain⟨d1,d2⟩:=qxC hd (by omega)
  have w1:IntKind.u64.wrap (q*(v%4294967296))=q*(v%4294967296):=wrU d1 d2
  have w2:IntKind.u64.wrap (4294967296*rh)=4294967296*rh:=wrU (by omega) (by omega)
  have w3:IntKind.u64.wrap (4294967296*rh+x)=4294967296*rh+x:=wrU (by omega) (by omega)
  by_cases c3:4294967296*rh+x<q*(v%4294967296)
  ·obtain⟨m1,m2,m3,m4⟩:=more (.inr c3);by_cases c2:4294967296<=rh+v/4294967296
   ·have:=m1 c2
    simp[qkq,c1,w1,w2,w3,c3,m3,m4,c2];rw[this];exact he2 _
   ·simp[qkq,c1,w1,w2,w3,c3,m3,m4,c2];refine hx' (q-1,rh+v/4294967296) ⟨m2,by omega⟩ (by simp only;omega) _ _ ?_
    simp
  ·have:=qsk hd (by omega)
   simp[qkq,c1,w1,w2,w3,c3];rw[this];exact he1 _
def qJ9(v s u x a15:Int)
  (he1:∀rh,k (.exit 2) [(113,.d (.b false)),(18,.d (.i .u64 ((u*4294967296+x)/v))),(17,.d (.i .u64 u)),(16,.d (.i .u64 rh)),(15,.d (.i .u64 a15)),(14,.d (.i .u64 x)),(10,.d (.i .u64 (v%4294967296))),(9,.d (.i .u64 (v/4294967296))),(8,.d (.i .u64 s)),(2,.d (.i .u64 v))] []=r)
  (he2:∀rh,k (.exit 2) [(120,.d (.b true)),(113,.d (.b true)),(18,.d (.i .u64 ((u*4294967296+x)/v))),(17,.d (.i .u64 u)),(16,.d (.i .u64 rh)),(15,.d (.i .u64 a15)),(14,.d (.i .u64 x)),(10,.d (.i .u64 (v%4294967296))),(9,.d (.i .u64 (v/4294967296))),(8,.d (.i .u64 s)),(2,.d (.i .u64 v))] []=r)
  (q0 r0:Int) (hq:Dig v u x q0 r0) (hr:r0<4294967296)
  (h0:gc [2,8,9,10,14,15,16,17,18] 0 ⟨fr,H⟩=⟨[(18,.d (.i .u64 q0)),(17,.d (.i .u64 u)),(16,.d (.i .u64 r0)),(15,.d (.i .u64 a15)),(14,.d (.i .u64 x)),(10,.d (.i .u64 (v%4294967296))),(9,.d (.i .u64 (v/4294967296))),(8,.d (.i .u64 s)),(2,.d (.i .u64 v))],[]⟩) :
  kC E 0 fr H (.h (.loop [2,8,9,10,14,15,16,17,18] qkr,k))=r:=by
 refine qc7 (λp:Int×Int=>⟨[(18,.d (.i .u64 p.1)),(17,.d (.i .u64 u)),(16,.d (.i .u64 p.2)),(15,.d (.i .u64 a15)),(14,.d (.i .u64 x)),(10,.d (.i .u64 (v%4294967296))),(9,.d (.i .u64 (v/4294967296))),(8,.d (.i .u64 s)),(2,.d (.i .u64 v))],[]⟩) (λp=>Dig v u x p.1 p.2/\p.2<4294967296) (λp=>(4294967296-p.2).toNat) ?_ (q0,r0) ⟨hq,hr⟩ h0
 rintro B-⟨q,rh⟩ ⟨hd,hlt⟩ hx;simp only at hd hlt hx⊢;have hx':=λ(s':Int×Int)=>hx s'
 clear hx
 have hq0:0<=q:=Int.le_trans (qel hd.v0 hd.u0 hd.u1 hd.x0 hd.x1).1 hd.q0
 have hr0:=hd.r0
 have hv0:=hd.v0
 have hv1:=hd.v1
 have hx0:=hd.x0
 have hx1:=hd.x1
 have hq1:=hd.q1
 have more:(4294967296<=q\/4294967296*rh+x<q*(v%4294967296))->(4294967296<=rh+v/4294967296->q-1=(u*4294967296+x)/v)/\Dig v u x (q-1) (rh+v/4294967296)/\IntKind.u64.wrap (q-1)=q-1/\IntKind.u64.wrap (rh+v/4294967296)=rh+v/4294967296:=by
  intro hc;have hm:=qxB hd hc
  have hp:0<=q-1:=Int.le_trans (qel hd.v0 hd.u0 hd.u1 hd.x0 hd.x1).1 hm.q0
  exact⟨λh=>qxz hm h (by omega),hm,wrU hp (by omega),wrU (by omega) (by omega)⟩
 by_cases c1:4294967296<=q
 ·obtain⟨m1,m2,m3,m4⟩:=more (.inl c1);by_cases c2:4294967296<=rh+v/4294967296
  ·have:=m1 c2
   simp[qkr,c1,m3,m4,c2];rw[this];exact he2 _
  ·simp[qkr,c1,m3,m4,c2];refine hx' (q-1,rh+v/4294967296) ⟨m2,by omega⟩ (by simp only;omega) _ _ ?_
   simp
 ·obtain⟨d1,d2⟩:=qxC hd (by omega)
  have w1:IntKind.u64.wrap (q*(v%4294967296))=q*(v%4294967296):=wrU d1 d2
  have w2:IntKind.u64.wrap (4294967296*rh)=4294967296*rh:=wrU (by omega) (by omega)
  have w3:IntKind.u64.wrap (4294967296*rh+x)=4294967296*rh+x:=wrU (by omega) (by omega)
  by_cases c3:4294967296*rh+x<q*(v%4294967296)
  ·obtain⟨m1,m2,m3,m4⟩:=more (.inr c3);by_cases c2:4294967296<=rh+v/4294967296
   ·have:=m1 c2
    simp[qkr,c1,w1,w2,w3,c3,m3,m4,c2];rw[this];exact he2 _
   ·simp[qkr,c1,w1,w2,w3,c3,m3,m4,c2];refine hx' (q-1,rh+v/4294967296) ⟨m2,by omega⟩ (by simp only;omega) _ _ ?_
    simp
  ·have:=qsk hd (by omega)
   simp[qkr,c1,w1,w2,w3,c3];rw[this];exact he1 _
end
def qad{x y:Int}(h:¬x=y):(x==y)=false:=by simpa using h
def qR5(T:Tab)(hT:HT T)(hi lo y:Int)(h0:0<=hi)(l0:0<=lo)(l1:lo<18446744073709551616)(hy:hi<y)(y1:y<18446744073709551616):T.val 68 [.i .u64 hi,.i .u64 lo,.i .u64 y]=some (.t [.d (.i .u64 ((hi*18446744073709551616+lo)/y)),.d (.i .u64 ((hi*18446744073709551616+lo)%y))],false):=by
 obtain⟨r,hr⟩:∃r:Cz,some (.t [.d (.i .u64 ((hi*18446744073709551616+lo)/y)),.d (.i .u64 ((hi*18446744073709551616+lo)%y))],false)=r:=⟨_,rfl⟩;rw[qab T (hT 68 F68 rfl) rfl,hr];have g1:¬y=0:=by omega
 have g1b:=qad g1
 have g2:¬y<=hi:=by omega
 by_cases hz:hi=0
 ·subst hz;have e1:=quh lo y l0 l1 (by omega)
  have e2:=qBX lo y l0 (by omega)
  rw[show (0:Int)*18446744073709551616+lo=lo by omega]at hr
  generalize lo/y=Q at *
  generalize lo%y=Z at *
  simp[-qcZ,-qdA,F68,Fr.Aa,g1,g1b,g2,↓qcp,↓qcq,↓qb7,↓qdH,↓qcN,↓qew,↓qbY,qb9,↓qb1,↓qdj,↓qdV,↓qdW,↓qdh,↓qdi,↓qb0,↓qdB,↓qcd,↓qd1,↓qd0,↓qd7,↓qej,↓qdZ,↓qeh,↓qeg,↓qcm,↓qd3,↓qc2,↓qd4,↓qd6,↓qd5,↓qd8,↓qd2,↓qea,↓qec,↓qef,↓qee,↓qed,↓qd9,↓qeb,↓qei,↓qdX,↓qdY,qbr,AA,AP,qaE,qa8,chg,qbj,runs,qa6,qbg,PV.refs,PV.AL,IOp.okD,IOp.barr,qci,Nat.testBit,↓qaP e1,↓qaP e2];exact hr
 ·obtain⟨Y,rfl⟩:=Int.eq_ofNat_of_zero_le (show 0<=y by omega)
  have hl:=qtw (x:=Y) (by omega)
  obtain⟨t1,t2⟩:=qKz (y:=Y) (by omega) (by omega)
  obtain⟨s,es⟩:∃s,64-Go.bitLen Y=s:=⟨_,rfl⟩;have e73:=qR6 T hT Y (by omega)
  have hpos:0<Go.bitLen Y:=by
   unfold Go.bitLen;rw[if_neg (by omega)]
   omega
  rw[es]at t1 t2 e73;have hs:s<=63:=by omega
  obtain⟨mm,hmm⟩:∃mm,Y*2^s=mm:=⟨_,rfl⟩;rw[hmm]at t1 t2;have hmc:((mm:Nat):Int)=(Y:Int)*2^s:=by rw[<-hmm];push_cast;rfl
  have t1':(9223372036854775808:Int)<=(Y:Int)*2^s:=by rw[<-hmc];omega
  have t2':(Y:Int)*2^s<18446744073709551616:=by rw[<-hmc];omega
  clear hmc hmm
  obtain⟨A,L,c,eA,eL,ec,A0,A1,L0,L1,u1,eU,c0,c1⟩:=qQt (hi:=hi) (lo:=lo) (y:=(Y:Int)) hs h0 l0 l1 hy t2';have b1:=qvm (Y:Int) s (by omega)
  have b2:=qvm hi s (by omega)
  have b3:=qoa lo (64-s) (by omega)
  have b4:=qvm lo s (by omega)
  rw[show (Y:Int)*2^s%18446744073709551616=(Y:Int)*2^s from Int.emod_eq_of_lt (by omega) t2']at b1
  rw[eA]at b2;rw[eL]at b3;rw[ec]at b4;have b5:=orU A L s A0 (by omega) A1 L0 L1 (by omega)
  have b6:=qQN 64 (s:Int)
  rw[show (64-(s:Int))%18446744073709551616=((64-s:Nat):Int)by omega]at b6
  have hq:(hi*18446744073709551616+lo)*2^s/((Y:Int)*2^s)=(hi*18446744073709551616+lo)/(Y:Int):=Int.mul_ediv_mul_of_pos_left _ _ (Int.pow_pos (by decide))
  have hm:(hi*18446744073709551616+lo)*2^s%((Y:Int)*2^s)=(hi*18446744073709551616+lo)%(Y:Int)*2^s:=by
   rw[Int.mul_comm _ (2^s),Int.mul_comm _ (2^s),Int.mul_emod_mul_of_pos _ _ (Int.pow_pos (by decide)),Int.mul_comm]
  have hm2:(hi*18446744073709551616+lo)*2^s%((Y:Int)*2^s)/2^s=(hi*18446744073709551616+lo)%(Y:Int):=by
   rw[hm,Int.mul_ediv_cancel _ (by have:(0:Int)<2^s:=Int.pow_pos (by decide);omega)]
  rw[<-hq,<-hm2]at hr;rw[eU]at hr;have b7:∀R:Int,qaI .shr (.d (.i .u64 R)) (.d (.i .u64 (s:Int)))=some (.i .u64 (R/2^s)):=λR=>qoa R s (by omega)
  generalize (2:Int)^s=P at *
  generalize hv:(Y:Int)*P=v at *
  obtain⟨u,hu⟩:∃u,u=A+L:=⟨_,rfl⟩;rw[<-hu]at b5 u1 hr;have hU:0<=u*18446744073709551616+c:=by omega
  have hu0:0<=u:=by omega
  obtain⟨a,ea⟩:∃a,a=c/4294967296:=⟨_,rfl⟩;obtain⟨b,eb⟩:∃b,b=c%4294967296:=⟨_,rfl⟩;have b8:=qiv v
  have b9:=qmS v (by omega) t2'
  have b10:=qiv c
  have b11:=qmS c c0 c1
  rw[<-ea]at b10;rw[<-eb]at b11;obtain⟨Q,eQ⟩:∃Q,Q=(u*4294967296+a)/v:=⟨_,rfl⟩;obtain⟨w,ew⟩:∃w,w=u*4294967296+a-Q*v:=⟨_,rfl⟩;obtain⟨w0,w1,z1,z2⟩:=qF4 (v:=v) (U:=u*18446744073709551616+c) (u:=u) (a:=a) (b:=b) (Q:=Q) (w:=w) t1' hU (by omega) u1 (by omega) (by omega) eQ ew
  rw[<-z1,<-z2]at hr;obtain⟨q1,r1,d1,d2,d3,d4,d5⟩:=qxA (v:=v) (u:=u) (x:=a) t1' t2' hu0 u1 (by omega) (by omega)
  obtain⟨q2,r2,f1,f2,f3,f4,f5⟩:=qxA (v:=v) (u:=w) (x:=b) t1' t2' w0 w1 (by omega) (by omega)
  obtain⟨n1,n2,-,-⟩:=qel (v:=v) (u:=u) (x:=a) t1' hu0 u1 (by omega) (by omega)
  obtain⟨m1,m2,-,-⟩:=qel (v:=v) (u:=w) (x:=b) t1' w0 w1 (by omega) (by omega)
  obtain⟨Q2,eQ2⟩:∃Q2,Q2=(w*4294967296+b)/v:=⟨_,rfl⟩;rw[<-eQ]at n1 n2;rw[<-eQ2]at m1 m2 hr z1 z2;have k1:IntKind.u64.wrap (IntKind.u64.wrap (IntKind.u64.wrap (u*4294967296)+a)-IntKind.u64.wrap (Q*v))=w:=by
   simp only[wU];generalize Q*v=m at *
   omega
  have k2:IntKind.u64.wrap (IntKind.u64.wrap (Q*4294967296)+Q2)=Q*4294967296+Q2:=by simp only[wU];omega
  have rm0:0<=w*4294967296+b-Q2*v/\w*4294967296+b-Q2*v<v:=by
   rw[z2];exact⟨Int.emod_nonneg _ (by omega),Int.emod_lt_of_pos _ (by omega)⟩
  have k3:IntKind.u64.wrap (IntKind.u64.wrap (IntKind.u64.wrap (w*4294967296)+b)-IntKind.u64.wrap (Q2*v))=w*4294967296+b-Q2*v:=by
   simp only[wU];generalize Q2*v=m at *
   omega
  have k4:=b7 (w*4294967296+b-Q2*v)
  have ws:IntKind.u64.wrap (s:Int)=(s:Int):=wrU (by omega) (by omega)
  generalize w*4294967296+b-Q2*v=Z at *
  generalize Z/P=Z2 at *
  generalize Q*4294967296+Q2=Qt at *
  have lp0:=λk he1 he2 fr H=>@qJ8 T.env k fr H r v (s:Int) u a b he1 he2 q1 r1 d1 d2
  have lp1:=λk he1 he2 fr H=>@qJ9 T.env k fr H r v (s:Int) w b Q he1 he2 q2 r2 f1 f2
  rw[<-eQ]at lp0;rw[<-eQ2]at lp1;simp[-qcZ,-qdA,F68,Fr.Aa,g1,g1b,g2,hz,qad hz,e73,↓qaS,↓qa7,ws,↓qaP b1,↓qaP b2,↓qaP b3,↓qaP b4,↓qaP b5,↓qaP b6,↓qaP b8,↓qaP b9,↓qaP b10,↓qaP b11,↓qaP d3,d4,d5];refine lp0 _ (λrh=>?_) (λrh=>?_) _ _ (by simp)
  ·simp[-qcZ,k1,↓qaP f3,f4,f5];refine lp1 _ (λrh=>?_) (λrh=>?_) _ _ (by simp)
   ·simp[k2,k3,↓qaP k4];exact hr
   ·simp[k2,k3,↓qaP k4];exact hr
  ·simp[-qcZ,k1,↓qaP f3,f4,f5];refine lp1 _ (λrh=>?_) (λrh=>?_) _ _ (by simp)
   ·simp[k2,k3,↓qaP k4];exact hr
   ·simp[k2,k3,↓qaP k4];exact hr
