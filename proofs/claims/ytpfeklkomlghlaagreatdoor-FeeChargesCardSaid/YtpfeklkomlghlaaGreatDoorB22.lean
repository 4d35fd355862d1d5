/- Part 22 of the proof. -/
import Derived.Test.YtpfeklkomlghlaaGreatDoorB21
set_option linter.all false
namespace Go.Sim
set_option maxRecDepth 100000
set_option maxHeartbeats 8000000
section
attribute [local simp ↓] qgR qgP qgH qgQ qgE qgI qgF qgG sqK blK lpK qgW qgU qgS qgV qgT qgy qgA qhA qf9 qf7 qf8 qge qfB qfC qfl qfo qfA qfE qfn qfF qfu qfw qfx qfy qfD qfz qfm qfp qfq qfr qfv qf5 qf2 qfI qfH qfQ qfJ qdn qdT qfK qfL qgY qeX qgX qhv qe6 qfX qfY qfR qfT qfS qeN qf6 qeO qfN qf1 qfV qfU qfP qfO qf0 qf3 qfM qfZ qgz qeM qe5 qgo qg9 qcF qgp qeP qeQ qf4 qdh qhu qfs qga qgb qg2 qhw qgZ qgJ qgK qgL qgM qgN qgO qft qgn qeL qiM qiN qiK qiL qiI qhS qiS qiO qjq qiP qjG qkq qfW
attribute [local simp] qcD qg4 qg5 qgu qgv qgj qgk qhs qht qgr qgs rd IOp.adds qar gh nid rgK rdS qgw qgx qha qhb qhf qhg qhj qhe qhi qhh qfg qfe qff qhd qhc qgm qgl qhl qhk qhm qhn qgq qhZ qh0 qds qia qbL qif qjz qi8 qjy qjx
def qaZ(d:Int):CO:=decide (0<=d)&&decide (d<=73048)
def qg0(y:Int):CO:=(y.tmod 4==0)&&((y.tmod 100 != 0)||(y.tmod 400==0))
def lnI(y m:Int):Int:=if m=2 then (if qg0 y=true then 29 else 28)else if m=4\/m=6\/m=9\/m=11 then 30 else if m=1\/m=3\/m=5\/m=7\/m=8\/m=10\/m=12 then 31 else 0
def bgI(y:Int):Int:=365*(y-2000)+(y-2000+3)/4-(if 2100<y then 1 else 0)
def cmI(y:Int):Nat->Int
 |0=>0
 |n+1=>cmI y n+lnI y (1+n)
def qnU(T:Tab)(hT:HV T)(d:Int):T.val 22 [I d]=some (.d (.b (qaZ d)),false):=by
 rw[qab T (hT 22 F22 rfl) rfl];simp[F22,Fr.Aa,qaZ];repeat' (refine qbx (λh=>?_) (λh=>?_)<;>(try simp at h)<;>(try simp[h]))
 all_goals omega
def qRn(T:Tab)(hT:HV T)(y:Int):T.val 66 [I y]=some (.d (.b (qg0 y)),false):=by
 rw[qab T (hT 66 F66 rfl) rfl];simp[F66,Fr.Aa,qg0];repeat' (refine qbx (λh=>?_) (λh=>?_)<;>(try simp at h)<;>(try simp[h]))
 all_goals simp_all
def qqE(T:Tab)(hT:HV T)(y:Int)(h1:2000<=y)(h2:y<=3000):T.val 71 [I y]=some (.d (I (bgI y)),false):=by
 rw[qab T (hT 71 F71 rfl) rfl];have w1:IntKind.i64.wrap (y-2000)=y-2000:=wrI (by omega) (by omega);have w2:IntKind.i64.wrap (y-2000+3)=y-2000+3:=wrI (by omega) (by omega);have q:(y-2000+3).tdiv 4=(y-2000+3)/4:=Int.tdiv_eq_ediv_of_nonneg (by omega);have w3:IntKind.i64.wrap ((y-2000+3)/4)=(y-2000+3)/4:=wrI (by omega) (by omega);have w4:IntKind.i64.wrap (365*(y-2000))=365*(y-2000):=wrI (by omega) (by omega);have w5:IntKind.i64.wrap ((y-2000+3)/4-1)=(y-2000+3)/4-1:=wrI (by omega) (by omega);have w6:IntKind.i64.wrap (365*(y-2000)+((y-2000+3)/4-1))=365*(y-2000)+((y-2000+3)/4-1):=wrI (by omega) (by omega);have w7:IntKind.i64.wrap (365*(y-2000)+(y-2000+3)/4)=365*(y-2000)+(y-2000+3)/4:=wrI (by omega) (by omega);simp[F71,Fr.Aa,w1,w2,q,w3];repeat' (refine qbx (λh=>?_) (λh=>?_)<;>(try simp at h)<;>(try simp[w1,q,w3,w4,w5,w6,w7]))
 all_goals
  simp_all[bgI];try omega
def qEa{R:Type}{y:Cz->CK R}:bo (qcl [PV.d (I 0),PV.d (I 0),PV.d (I 0),PV.d (I 0),PV.d (I 0),PV.d (I 0),PV.d (I 0),PV.d (I 0),PV.d (I 0),PV.d (I 0),PV.d (I 0),PV.d (I 0),PV.d (I 0)] [(0,K0,.d (I 0)),(1,K0,.d (I 31)),(2,K0,.d (I 28)),(3,K0,.d (I 31)),(4,K0,.d (I 30)),(5,K0,.d (I 31)),(6,K0,.d (I 30)),(7,K0,.d (I 31)),(8,K0,.d (I 31)),(9,K0,.d (I 30)),(10,K0,.d (I 31)),(11,K0,.d (I 30)),(12,K0,.d (I 31))]) (.h y)=y [.d (I 0),.d (I 31),.d (I 28),.d (I 31),.d (I 30),.d (I 31),.d (I 30),.d (I 31),.d (I 31),.d (I 30),.d (I 31),.d (I 30),.d (I 31)]:=rfl
def qKd:mkA [.d (I 0),.d (I 31),.d (I 28),.d (I 31),.d (I 30),.d (I 31),.d (I 30),.d (I 31),.d (I 31),.d (I 30),.d (I 31),.d (I 30),.d (I 31)]=.d (.a [I 0,I 31,I 28,I 31,I 30,I 31,I 30,I 31,I 31,I 30,I 31,I 30,I 31]):=rfl
def qqF(T:Tab)(hT:HV T)(y m:Int)(h1:1<=m)(h2:m<=12):T.val 72 [I y,I m]=some (.d (I (lnI y m)),false):=by
 rw[qab T (hT 72 F72 rfl) rfl];have e:=qRn T hT y;have g:([I 0,I 31,I 28,I 31,I 30,I 31,I 30,I 31,I 31,I 30,I 31,I 30,I 31]:Cy)[m.toNat]? = some (I (if m=2 then 28 else lnI y m)):=by
  have:m=1\/m=2\/m=3\/m=4\/m=5\/m=6\/m=7\/m=8\/m=9\/m=10\/m=11\/m=12:=by omega
  rcases this with rfl|rfl|rfl|rfl|rfl|rfl|rfl|rfl|rfl|rfl|rfl|rfl<;>rfl
 have h3:0<=m:=by omega
 have h4:m<13:=by omega
 have h5:m.toNat<13:=by omega
 simp[F72,Fr.Aa,qak,qEa,qKd];repeat' (refine qbx (λh=>?_) (λh=>?_)<;>(try simp at h)<;>(try simp[h,e,qEv,qwL,h3,h4,h5,qai,DV.cells]))
 all_goals simp_all[lnI]
def qsf{g:Nat->Int}{x:Int}:∀(N:Nat),g 0<=x->x<g N->∃n,n<N/\g n<=x/\x<g (n+1)
 |0,h0,h1=>absurd h1 (by omega)
 |N+1,h0,h1=>by
  by_cases h:x<g N
  ·obtain⟨n,a,b,c⟩:=qsf N h0 h;exact⟨n,by omega,b,c⟩
  ·exact⟨N,by omega,by omega,h1⟩
def qI6{y:Int}(h1:2000<=y)(h2:y<2200):qg0 y=true↔(y%4=0/\y≠2100):=by unfold qg0;rw[Int.tmod_eq_emod_of_nonneg (by omega),Int.tmod_eq_emod_of_nonneg (by omega),Int.tmod_eq_emod_of_nonneg (by omega)];simp only[zzf,Bool.or_eq_true,beq_iff_eq,bne_iff_ne,ne_eq];omega
def qEy{y:Int}(h1:2000<=y)(h2:y<2200):bgI (y+1)=bgI y+(if qg0 y=true then 366 else 365):=by
 have h:=qI6 h1 h2;unfold bgI;by_cases g:qg0 y=true
 ·rw[if_pos g];have:=h.1 g;split<;>split<;>omega
 ·rw[if_neg g];have:¬(y%4=0/\y≠2100):=λq=>g (h.2 q);split<;>split<;>omega
def qFb(y:Int):cmI y 12=if qg0 y=true then 366 else 365:=by simp only[cmI,lnI];cases qg0 y<;>simp
def Civ(d:Int)(n m:Nat):Prop:=n<200/\bgI (2000+n)<=d/\d<bgI (2000+n+1)/\m<12/\cmI (2000+n) m<=d-bgI (2000+n)/\d-bgI (2000+n)<cmI (2000+n) (m+1)
def qoF{d:Int}(h:qaZ d=true):∃n m,Civ d n m:=by
 simp only[qaZ,zzf,zzq]at h;obtain⟨n,h1,h2,h3⟩:=qsf (g:=λn=>bgI (2000+n)) (x:=d) 200 (by simp[bgI];omega) (by simp[bgI];omega);have h3':d<bgI (2000+n+1):=by simpa[Int.add_assoc]using h3
 have h4:=qEy (y:=2000+n) (by omega) (by omega);obtain⟨m,h5,h6,h7⟩:=qsf (g:=cmI (2000+n)) (x:=d-bgI (2000+n)) 12 (by simp only[cmI];omega) (by rw[qFb];omega);exact⟨n,m,h1,h2,h3',h5,h6,h7⟩
def qkV{y:Int}{m:Int}(h1:1<=m)(h2:m<=12):28<=lnI y m/\lnI y m<=31:=by unfold lnI;(repeat' split)<;>omega
def qoI(y:Int):∀{a b:Nat},a<=b->b<=12->cmI y a<=cmI y b
 |a,0,h,_=>by
  obtain rfl:a=0:=by omega
  exact Int.le_refl _
 |a,b+1,h,hb=>by
  by_cases e:a=b+1
  ·subst e;exact Int.le_refl _
  ·have:=qoI y (a:=a) (b:=b) (by omega) (by omega);have:=qkV (y:=y) (m:=1+b) (by omega) (by omega);simp only[cmI];omega
def qkr{a b:Nat}(h:a<=b):bgI (2000+a)<=bgI (2000+b):=by unfold bgI;split<;>split<;>omega
def bg0:bgI 2000=0:=by decide
def qrP{d:Int}{n m:Nat}(h:Civ d n m):0<=d/\d<=73048:=by
 obtain⟨h1,h2,h3,-⟩:=h;have:=qkr (a:=0) (b:=n) (by omega);have b:=qkr (a:=n+1) (b:=200) (by omega);have e:bgI (2000+(200:Nat))=73049:=by decide
 have e0:bgI (2000+(0:Nat))=0:=by decide
 rw[show (2000:Int)+((n+1:Nat):Int)=2000+n+1 by omega]at b;omega
def qJE(T:Tab)(hT:HV T)(d:Int)(n m:Nat)(h:Civ d n m){k:KC (PV×CO)}{fr:Fr}{H:CW}(h0:gc [0,5] 0 ⟨fr,H⟩=⟨[(5,.d (I (2000+d/366))),(0,.d (I d))],[]⟩) :
  kC T.env 0 fr H (.h (.loop [0,5] qq6,k))=k (.exit 0) [(17,.d (.b false)),(5,.d (I (2000+n))),(0,.d (I d))] []:=by
 obtain⟨hp,hp2⟩:=qrP h;obtain⟨h1,h2,h3,-⟩:=h;obtain⟨q,hq⟩:∃q:Nat,(q:Int)=d/366:=⟨(d/366).toNat,by omega⟩;have hqd:bgI (2000+q)<=d:=by unfold bgI;split<;>omega
 have hqn:q<=n:=by
  by_cases g:q<=n
  ·exact g
  ·have:=qkr (a:=n+1) (b:=q) (by omega);rw[show (2000:Int)+((n+1:Nat):Int)=2000+n+1 by omega]at this;omega
 refine qh9 (λy:Int=>⟨[(5,.d (I y)),(0,.d (I d))],[]⟩) (λi=>2000+((q+i:Nat):Int)) (n-q) ?_ ?_ (by rw[h0,<-hq];simp)
 ·intro B _;simp only[Nat.add_sub_cancel' hqn];have w:IntKind.i64.wrap (2000+(n:Int)+1)=2000+n+1:=wrI (by omega) (by omega);have e:=qqE T hT (2000+n+1) (by omega) (by omega);have g:¬bgI (2000+n+1)<=d:=by omega
  simp[qq6,w,e,g]
 ·intro B _ i hi c hc;obtain⟨z,hz⟩:∃z:Int,2000+((q+i:Nat):Int)=z:=⟨_,rfl⟩;have hz':2000+((q+(i+1):Nat):Int)=z+1:=by omega
  have b:=qkr (a:=q+(i+1)) (b:=n) (by omega);simp only[hz']at hc b;simp only[hz];have w:IntKind.i64.wrap (z+1)=z+1:=wrI (by omega) (by omega);have e:=qqE T hT (z+1) (by omega) (by omega);have g:bgI (z+1)<=d:=by omega
  simp[qq6,w,e,g];exact hc _ _ (by simp[gc,Fr.keep,qaH,qaw,qat,PV.refs,gcH,PV.ren,Obj.ren,Heap.obj,Fr.ren,gh])
def qJF(T:Tab)(hT:HV T)(d:Int)(n m:Nat)(h:Civ d n m){k:KC (PV×CO)}{fr:Fr}{H:CW}(h0:gc [0,5,6] 0 ⟨fr,H⟩=⟨[(6,.d (I 1)),(5,.d (I (2000+n))),(0,.d (I (d-bgI (2000+n))))],[]⟩) :
  kC T.env 0 fr H (.h (.loop [0,5,6] qq7,k))=k (.exit 2) [(28,.d (.b false)),(6,.d (I (1+m))),(5,.d (I (2000+n))),(0,.d (I (d-bgI (2000+n)-cmI (2000+n) m)))] []:=by
 obtain⟨hp,hp2⟩:=qrP h;obtain⟨h1,h2,h3,h4,h5,h6⟩:=h;generalize hy:(2000:Int)+n=y at *
 have hb:=qkr (a:=0) (b:=n) (by omega);rw[hy,show (2000:Int)+((0:Nat):Int)=2000 by simp,bg0]at hb;refine qh9 (λs:Int×Int=>⟨[(6,.d (I s.1)),(5,.d (I y)),(0,.d (I s.2))],[]⟩) (λi=>(1+(i:Int),d-bgI y-cmI y i)) m ?_ ?_ (by rw[h0];simp[cmI])
 ·intro B _;have e:=qqF T hT y (1+m) (by omega) (by omega);have g:¬lnI y (1+m)<=d-bgI y-cmI y m:=by simp only[cmI]at h6;omega
  simp[qq7,e,g]
 ·intro B _ i hi c hc;have e:=qqF T hT y (1+i) (by omega) (by omega);have l:=qoI y (a:=i+1) (b:=m) (by omega) (by omega);have l0:=qoI y (a:=0) (b:=i+1) (by omega) (by omega);simp only[cmI]at l l0;have g:lnI y (1+i)<=d-bgI y-cmI y i:=by omega
  have w:IntKind.i64.wrap (1+(i:Int)+1)=1+(i:Int)+1:=wrI (by omega) (by omega);have w2:IntKind.i64.wrap (d-bgI y-cmI y i-lnI y (1+i))=d-bgI y-cmI y (i+1):=by have:=qkV (y:=y) (m:=1+i) (by omega) (by omega);rw[wrI (by omega) (by omega)];simp only[cmI];omega
  simp[qq7,w,e,g,w2];exact hc _ _ (by simp[gc,Fr.keep,qaH,qaw,qat,PV.refs,gcH,PV.ren,Obj.ren,Heap.obj,Fr.ren,gh];omega)
def qRm(T:Tab)(hT:HV T)(d:Int)(n m:Nat)(h:Civ d n m):T.val 65 [I d]=some (.t [.d (I (2000+n)),.d (I (1+m)),.d (I (d-bgI (2000+n)-cmI (2000+n) m+1))],false):=by
 rw[qab T (hT 65 F65 rfl) rfl];obtain⟨hp,hp2⟩:=qrP h;have hv:qaZ d=true:=by simp[qaZ,hp,hp2]
 have e:=qnU T hT d;have q:d.tdiv 366=d/366:=Int.tdiv_eq_ediv_of_nonneg hp;have w1:IntKind.i64.wrap (d/366)=d/366:=wrI (by omega) (by omega);have w2:IntKind.i64.wrap (2000+d/366)=2000+d/366:=wrI (by omega) (by omega);rw[hv]at e;have lp:=λk fr H=>@qJE T hT d n m h k fr H;have lp2:=λk fr H=>@qJF T hT d n m h k fr H;have e2:=qqE T hT (2000+n) (by omega) (by have:=h.1;omega);have hb:=qkr (a:=0) (b:=n) (by omega);rw[show (2000:Int)+((0:Nat):Int)=2000 by simp,bg0]at hb;have h2:=h.2.1;have w3:IntKind.i64.wrap (d-bgI (2000+n))=d-bgI (2000+n):=wrI (by omega) (by omega);have l0:=qoI (2000+n) (a:=0) (b:=m) (by omega) (by have:=h.2.2.2.1;omega);have h5:=h.2.2.2.2.1;simp only[cmI]at l0;have w4:IntKind.i64.wrap (d-bgI (2000+n)-cmI (2000+n) m+1)=d-bgI (2000+n)-cmI (2000+n) m+1:=wrI (by omega) (by omega)
 simp[F65,Fr.Aa,e,q,w1,w2];refine (lp _ _ _ (by simp[gc,Fr.keep,qaH,qaw,qat,PV.refs,gcH,PV.ren,Obj.ren,Heap.obj,Fr.ren,gh])).trans ?_;simp[e2,w3];refine (lp2 _ _ _ (by simp[gc,Fr.keep,qaH,qaw,qat,PV.refs,gcH,PV.ren,Obj.ren,Heap.obj,Fr.ren,gh])).trans ?_;simp[w4];try rfl
def qEu{e:DV}(h:XE e):∃a:Ae,e=a.dv/\a.ok:=by
 cases h with
 |mk o n s a h1 h2 h3 h4=>
  cases h4 with
  |mk es h5 h6 h7=>exact⟨⟨o,n,s,⟨es,false⟩⟩,rfl,h1,h2,h3,.mk es h5 h6 h7⟩
def qoC{es:Cy}{t:CO}(h:XL (.l (K1 4) es t)):es.length<=maxLen/\∃l:CL Ae,es=l.map Ae.dv/\∀a∈l,a.ok:=by
 cases h with
 |mk _ h5 h6=>exact⟨h5,qpI λe he=>qEu (h6 e he)⟩
def qrw{x a:Ae}(h:a.dv∈x.AR.l):SizeOf.sizeOf a.dv<SizeOf.sizeOf x.dv:=by
 have h1:=List.sizeOf_lt_of_mem h;have h2:SizeOf.sizeOf x.AR.l<SizeOf.sizeOf x.dv:=by simp only[Ae.dv,DV.a.sizeOf_spec,List.cons.sizeOf_spec,DV.l.sizeOf_spec];omega
 omega
section
variable {R:Type}{y:PV->CK R}
def qBe:∀(l:Cz) (c:Nat) (v:PV),c<l.length->qac [v]=none->qac (l.set c v)=none
 |x::l,0,v,_,hv=>by
  rw[List.set_cons_zero];cases v with
  |d x=>simp[qac]at hv
  |_=>rfl
 |x::l,c+1,v,h,hv=>by
  rw[List.set_cons_succ];have ih:=qBe l c v (by simpa using h) hv;cases x with
  |d x=>simp only[qac,ih]
  |_=>rfl
def qOQ{α:Type}(l:CL α)(c:Nat)(v:α)(h:c<l.length):putAt l c [v]=l.set c v:=by unfold putAt;rw[List.set_eq_take_append_cons_drop,if_pos h];simp
def qKi{n c o off len:Nat}{l:Cz}{k:K}{t:CO}:bo (mkP (some n) (putAt l c (PV.cells (.r o k off len t)))) (.h y)=chk (l.length=n/\c<n) (.h (y (.a (l.set c (.r o k off len t)))))\/¬(l.length=n/\c<n):=by
 by_cases h:l.length=n/\c<n
 ·left;have hc:c<l.length:=by omega
  unfold chk;rw[if_pos h];show bo (mkP (some n) (putAt l c [_])) _=_;rw[qOQ _ _ _ hc];simp only[mkP,List.length_set,h.1,if_true,mkA,qBe l c (.r o k off len t) hc rfl,bo]
 ·exact .inr h
def qKg{n c o off len:Nat}{l:Cz}{k:K}{t:CO}{z:CK R}(h:l.length=n/\c<n)(hy:y (.a (l.set c (.r o k off len t)))=z):bo (mkP (some n) (putAt l c (PV.cells (.r o k off len t)))) (.h y)=z:=by
 rcases qKi (y:=y) (n:=n) (c:=c) (o:=o) (off:=off) (len:=len) (l:=l) (k:=k) (t:=t)with h1|h1
 ·rw[h1];unfold chk;rw[if_pos h];exact hy
 ·exact absurd h h1
def qtv{n c o off len:Nat}{l:Cz}{k:K}{t:CO}(h:l.length=n/\c<n):bo (mkP (some n) (putAt l c (PV.cells (.r o k off len t)))) (.h y)=y (.a (l.set c (.r o k off len t))):=qKg h rfl
def qOS(l xs:Cy)(c:Nat):putAt (l.map PV.d) c (xs.map PV.d)=(putAt l c xs).map PV.d:=by simp only[putAt,List.map_append,List.map_take,List.map_drop,zzo]
def qKj{n c:Nat}{l:Cy}{v:DV}(h:putAt l c v.cells=l)(hn:l.length=n):bo (mkP (some n) (putAt (l.map PV.d) c (v.cells.map PV.d))) (.h y)=y (.d (.a l)):=by
 rw[qOS,h];have:(l.map PV.d).length=n:=by simpa using hn
 simp only[mkP,this,if_true,mkA,qtO,bo]
def qAs{n c:Nat}{v w:DV}(h:putAt v.cells c w.cells=v.cells)(hv:DV.a v.cells=v)(hn:v.cells.length=n):bo (mkP (some n) (putAt (PV.cells (.d v)) c (PV.cells (.d w)))) (.h y)=y (.d v):=by rw[qc7,qc7,qKj h hn,hv]
def qep(k:K)(es:Cy)(t:CO):DV.cells (.l k es t)=[.l k es t]:=rfl
def qvd{n c:Nat}{l:Cz}:bo (qdi (some n) (.a l) c none) (.h y)=chk (c<n) (.h (bo l[c]? (.h y))):=by
 unfold chk;simp only[qdi,K.eq,Bool.and_false,zzg,if_false];change bo (@ite _ (c+1<=n) (Nat.decLe _ _) (mkP none ((List.drop c l).take 1)) none) (.h y)=_;by_cases h:c<n
 ·rw[if_pos h,if_pos (by omega),qvj];cases l[c]? <;> rfl
 ·rw[if_neg h,if_neg (by omega)];rfl
def qmH(l:Cz):PV.cells (.a l)=l:=rfl
def qmS{n:Nat}{l:Cz}:fits (some n) (.a l)=(l.length==n):=rfl
def qki(H:CW)(l:Cz)(xs:Cy):Prop:=∃os,qcd H l=some (xs,os)
def qBn(H:CW):∀xs:Cy,qki H (xs.map .d) xs
 |[]=>⟨[],rfl⟩
 |x::xs=>by obtain⟨os,h⟩:=qBn H xs;exact⟨_,by simp only[zzu,qcd,qaW,h];rfl⟩
def qBr{H:CW}{o ro:Nat}{k:K}{es:Cy}{t:CO}:∀{l:Cz} {xs:Cy} {c:Nat},qki H l xs->H.obj o=some (.sl k ro es)->xs[c]? = some (.l k es false)->qki H (l.set c (.r o k 0 es.length t)) xs
 |[],xs,c,h,_,hc=>by obtain⟨os,h⟩:=h;cases h;simp at hc
 |v::l,xs,c,h,ho,hc=>by
  obtain⟨os,h⟩:=h;simp only[qcd]at h;cases h1:qaW H v with
  |none=>simp[h1]at h
  |some p=>
   cases h2:qcd H l with
   |none=>simp[h1,h2]at h
   |some q=>
    obtain⟨p,p'⟩:=p;obtain⟨q,q'⟩:=q;simp only[h1,h2,zzb,zzc]at h;obtain⟨rfl,-⟩:=h;cases c with
    |zero=>simp only[List.getElem?_cons_zero,zzb]at hc;subst hc;rw[List.set_cons_zero];exact⟨_,by simp only[qcd,qaW,ho,h2,Nat.zero_add,zzt,and_self,if_true,List.drop_zero,List.take_length];rfl⟩
    |succ c=>simp only[List.getElem?_cons_succ]at hc;obtain⟨os,h3⟩:=qBr (t:=t) ⟨_,h2⟩ ho hc;rw[List.set_cons_succ];exact⟨_,by simp only[qcd,h1,h3];rfl⟩
def qON{H:CW}{o ro n:Nat}{k:K}{es:Cy}{t:CO}{l:Cz}{xs:Cy}{c:Nat}(h:qki H l xs)(ho:H.obj o=some (.sl k ro es))(hc:xs[c]? = some (.l k es false))(hn:n=es.length):qki H (l.set c (.r o k 0 n t)) xs:=by rw[hn];exact qBr h ho hc
def qOO{H:CW}{l:Cz}{xs:Cy}(h:qki H l xs):AC H (.a l)=some (.d (.a xs),false):=by obtain⟨os,h⟩:=h;simp only[AC,pur,h]
end
def HCl(T:Tab)(f:Nat)(k:K)(b:Nat):Prop:=∀ds,T.val f ds=qmJ k b ds
def qGL{T:Tab}{f:Nat}{k:K}{b:Nat}(h:HCl T f k b){es:Cy}{t:CO}(hb:es.length*b<=qbt):T.val f [.l k es t]=some (.d (.l k es false),true):=by rw[h,qmJ];have:es.length*b<=2^47:=hb;simp[this,qcD]
section
attribute [local simp ↓] qbm qbn qbg qbz qbp qbJ qbd qbf qbw qbA qbB qbu qbv qbe qby qbj qbR qbQ qdZ qbH qbE qd8 qd7 qbl qdV qb2 qdW qdY qdX qbG qbF qd1 qd3 qd6 qd5 qd4 qd0 qd2 qd9 qbC qbD
attribute [local simp] qbh qa3 Ar Az qas qaP chg qaY runs qaM qaX PV.refs PV.Av IOp.okD IOp.Bg qbk Nat.testBit
attribute [local simp] gc Fr.keep qaH qaw qat PV.refs PV.Av qaJ gcH qaO Obj.refs PV.ren PV.Bp Obj.ren Heap.obj Fr.ren gh zzd
section
variable {R:Type}{E:Env}{ρ:Ab->PV}{H:CW}{id:Nat}{q:PV->CW->CK R}
def qmy{p:Nat}{xs:CL Ab}:bo2 (qaa E ρ H id (.prim p xs)) (.h q)=bo (qeD p (xs.map ρ)) (.h λv=>q v H):=by simp only[qaa];exact qiR _ _ _
end
def qir(T:Tab)(hT:HT T)(n:Int)(h0 : -9223372036854775808<=n)(h1:n<9223372036854775808):T.val 44 [I n]=some (.d (Wd n).dv,false):=by
 have e:(⟨n.fdiv (2^63),IntKind.u64.wrap n⟩:Be)=Wd n:=by have:n.fdiv (2^63)=n/9223372036854775808:=Int.fdiv_eq_ediv_of_nonneg _ (by decide);rw[this,wU,Wd];congr 1;omega
 rw[qab T (hT 44 F44 rfl) rfl,<-e];simp[F44,Fr.Aa,qaL,qjE,↓qay,qc8,IntKind.bits];rfl
def qC0(T:Tab)(hT:HT T)(n:Int)(h0 : -9223372036854775808<=n)(h1:n<9223372036854775808):T.val 48 [I n]=some (.d (.i .u64 (aI n)),false):=by
 rw[qab T (hT 48 F48 rfl) rfl];by_cases h:n<0
 ·have e:IntKind.u64.wrap (0-IntKind.u64.wrap n)=aI n:=by rw[wU,wU,qhQ h];omega
  simp[F48,Fr.Aa,↓qay,qc8,h,e];try (rw[<-e];simp)
 ·have e:IntKind.u64.wrap n=aI n:=by rw[wU,qov h];omega
  simp[F48,Fr.Aa,↓qay,qc8,h,e]
def pr0{x y c:Int}(h1:0<=x)(h2:0<=y)(h3:0<=c)(h4:c<=1):qeD 0 [.d (.i .u64 x),.d (.i .u64 y),.d (.i .u64 c)]=some (.t [.d (.i .u64 ((x+y+c)%18446744073709551616)),.d (.i .u64 ((x+y+c)/18446744073709551616))]):=by simp only[qeD];rw[if_pos ⟨h1,h2,h3,h4⟩]
def pr1{x y:Int}(h1:0<=x)(h2:0<=y)(h2':y<18446744073709551616):qeD 1 [.d (.i .u64 x),.d (.i .u64 y),.d (.i .u64 0)]=some (.t [.d (.i .u64 ((x+18446744073709551616-y-0)%18446744073709551616)),.d (.i .u64 (if x<y+0 then 1 else 0))]):=by simp only[qeD];rw[if_pos ⟨h1,h2,h2',by omega,by omega⟩]
def qF4{A B z:Int}{r:CG}(h:some (PV.d (Wd z).dv,false)=r)(h1:A=z/18446744073709551616)(h2:B=z%18446744073709551616):some (PV.d (.a [I A,.i .u64 B]),false)=r:=by rw[wd0 h1 h2];exact h
def qvu(T:Tab)(hT:HT T)(z:Int)(h0 : -170141183460469231731687303715884105728<=z)(h1:z<170141183460469231731687303715884105728):T.val 49 [(Wd z).dv]=some (.d (Wd (ngW z)).dv,false):=by
 obtain⟨a,ea,a1,a2⟩:=qeG z;obtain⟨r,hr⟩:∃r:CG,some (.d (Wd (ngW z)).dv,false)=r:=⟨_,rfl⟩;rw[qab T (hT 49 F49 rfl) rfl,ea,hr];have x1:=qSq (n:=a.Lo) (by omega) (by omega);have x2:=qSp (n:=a.Hi) (by omega) (by omega);have h5:=pr0 (x:=18446744073709551615-a.Lo) (y:=1) (c:=0) (by omega) (by omega) (by omega) (by omega);simp[F49,Fr.Aa,↓qay,qc8,↓qmy,↓qaT x1,↓qaT x2,h5,↓qak,↓qam,↓qal,putAt,mkA,qac,qai,qan,qaj];refine qF4 hr ?_ ?_
 ·simp only[wU,wI];unfold ngW;split<;>omega
 ·unfold ngW;split<;>omega
def qdA(z:Int):PV×CO:=if -170141183460469231731687303715884105728<=z/\z<170141183460469231731687303715884105728 then (.t [.d (Wd z).dv,.d (I 0)],false)else (.t [.d (.a [I 0,.i .u64 0]),.d (I 6)],false)
def qCs{z A B:Int}{r:CG}(h:some (qdA z)=r)(h0 : -170141183460469231731687303715884105728<=z/\z<170141183460469231731687303715884105728)(h1:A=z/18446744073709551616)(h2:B=z%18446744073709551616):some (PV.t [.d (.a [I A,.i .u64 B]),.d (I 0)],false)=r:=by rw[<-h,qdA,if_pos h0,wd0 h1 h2]
def qCt{z:Int}{r:CG}(h:some (qdA z)=r)(h0:¬(-170141183460469231731687303715884105728<=z/\z<170141183460469231731687303715884105728)):some (PV.t [.d (.a [I 0,.i .u64 0]),.d (I 6)],false)=r:=by rw[<-h,qdA,if_neg h0]
def qCQ(T:Tab)(hT:HT T)(x y:Int)(x0 : -170141183460469231731687303715884105728<=x)(x1:x<170141183460469231731687303715884105728)(y0 : -170141183460469231731687303715884105728<=y)(y1:y<170141183460469231731687303715884105728):T.val 31 [(Wd x).dv,(Wd y).dv]=some (qdA (x+y)):=by
 obtain⟨a,ea,a1,a2⟩:=qeG x;obtain⟨b,eb,b1,b2⟩:=qeG y;obtain⟨r,hr⟩:∃r,some (qdA (x+y))=r:=⟨_,rfl⟩;rw[qab T (hT 31 F31 rfl) rfl,ea,eb,hr];have h5:=pr0 (x:=a.Lo) (y:=b.Lo) (c:=0) (by omega) (by omega) (by omega) (by omega);simp[F31,Fr.Aa,↓qay,qc8,↓qmy,h5,↓qak,↓qam,↓qal,putAt,mkA,qac,qai,qan,qaj];repeat' (refine qbx (λh=>?_) (λh=>?_)<;>(try simp at h)<;>(try simp[h,↓qay,qc8,↓qak,↓qam,↓qal,putAt,mkA,qac,qai,qan,qaj]))
 all_goals
  simp only[wI,wU]at *
  first|exact qCs hr (by omega) (by omega) (by omega)|exact qCt hr (by omega)
def qCW(T:Tab)(hT:HT T)(x y:Int)(x0 : -170141183460469231731687303715884105728<=x)(x1:x<170141183460469231731687303715884105728)(y0 : -170141183460469231731687303715884105728<=y)(y1:y<170141183460469231731687303715884105728):T.val 42 [(Wd x).dv,(Wd y).dv]=some (qdA (x-y)):=by
 obtain⟨a,ea,a1,a2⟩:=qeG x;obtain⟨b,eb,b1,b2⟩:=qeG y;obtain⟨r,hr⟩:∃r,some (qdA (x-y))=r:=⟨_,rfl⟩;rw[qab T (hT 42 F42 rfl) rfl,ea,eb,hr];have h5:=pr1 (x:=a.Lo) (y:=b.Lo) (by omega) (by omega) (by omega);obtain⟨c,hc⟩:∃c:Int,(if a.Lo<b.Lo+0 then 1 else 0)=c:=⟨_,rfl⟩;rw[hc]at h5;have hc2:(c=1/\a.Lo<b.Lo)\/(c=0/\¬a.Lo<b.Lo):=by
  by_cases h:a.Lo<b.Lo
  ·rw[if_pos (by omega)]at hc;omega
  ·rw[if_neg (by omega)]at hc;omega
 clear hc;simp[F42,Fr.Aa,↓qay,qc8,↓qmy,h5,↓qak,↓qam,↓qal,putAt,mkA,qac,qai,qan,qaj];repeat' (refine qbx (λh=>?_) (λh=>?_)<;>(try simp at h)<;>(try simp[h,↓qay,qc8,↓qak,↓qam,↓qal,putAt,mkA,qac,qai,qan,qaj]))
 all_goals
  simp only[wI,wU]at *
  first|exact qCs hr (by omega) (by omega) (by omega)|exact qCt hr (by omega)
def qxz(a b:Be):eqA [1,1] (.d a.dv) (.d b.dv)=some (a.Hi==b.Hi&&(a.Lo==b.Lo&&true)):=by simp[eqA,eqL,eqK,Be.dv]
def qjg(z:Int):PV×CO:=if -9223372036854775808<=z/\z<9223372036854775808 then (.t [.d (I z),.d (.b true)],false)else (.t [.d (I 0),.d (.b false)],false)
def qvs(T:Tab)(hT:HT T)(z:Int)(h0 : -170141183460469231731687303715884105728<=z)(h1:z<170141183460469231731687303715884105728):T.val 46 [(Wd z).dv]=some (qjg z):=by
 obtain⟨a,ea,a1,a2⟩:=qeG z;obtain⟨r,hr⟩:∃r,some (qjg z)=r:=⟨_,rfl⟩;obtain⟨n,hn⟩:∃n,IntKind.i64.wrap a.Lo=n:=⟨_,rfl⟩;have hn2:=hn;rw[wI]at hn2;obtain⟨b,eb,b1,b2⟩:=qeG n;have e44:=qir T hT n (by omega) (by omega);rw[eb]at e44;rw[qab T (hT 46 F46 rfl) rfl,ea,hr];by_cases hz : -9223372036854775808<=z/\z<9223372036854775808
 ·have c1:b.Hi=a.Hi:=by omega
  have c2:b.Lo=a.Lo:=by omega
  have c3:n=z:=by omega
  have e:=qxz b a;rw[c1,c2]at e;simp only[beq_self_eq_true,Bool.true_and]at e;simp[F46,Fr.Aa,↓qay,qc8,hn,e44,e];rw[<-hr,qjg,if_pos hz,c3]
 ·have e:eqA [1,1] (.d b.dv) (.d a.dv)=some false:=by
   rw[qxz];have:¬(b.Hi=a.Hi/\b.Lo=a.Lo):=by omega
   simp only[Bool.and_true];congr 1;simpa using this
  simp[F46,Fr.Aa,↓qay,qc8,hn,e44,e];rw[<-hr,qjg,if_neg hz]
def qvt(T:Tab)(hT:HT T)(x y:Int)(hx0:0<=x)(hx:x<18446744073709551616)(hy0:0<=y)(hy:y<18446744073709551616):T.val 47 [.i .u64 x,.i .u64 y]=some (.t [.d (.i .u64 (x*y/18446744073709551616)),.d (.i .u64 (x*y%18446744073709551616))],false):=by
 obtain⟨r,hr⟩:∃r:CG,some (.t [.d (.i .u64 (x*y/18446744073709551616)),.d (.i .u64 (x*y%18446744073709551616))],false)=r:=⟨_,rfl⟩;have hm:=Go.mul64_arith x y hx0 hx hy0 hy;have e1:=qmu x hx0 hx;have e2:=qik x;have e3:=qmu y hy0 hy;have e4:=qik y;have e5:=qnm (x%4294967296) (y%4294967296);have e6:=qnm (x/4294967296) (y%4294967296);generalize hw0:x%4294967296*(y%4294967296)%18446744073709551616=w0 at *
 generalize hp:x/4294967296*(y%4294967296)%18446744073709551616=p at *
 have e7:=qik w0;have e8:=qow p (w0/4294967296);generalize ht:(p+w0/4294967296)%18446744073709551616=t at *
 have e9:=qmu t (by omega) (by omega);have e10:=qik t;have e11:=qnm (x%4294967296) (y/4294967296);generalize hq:x%4294967296*(y/4294967296)%18446744073709551616=u at *
 have e12:=qow (t%4294967296) u;generalize hw1:(t%4294967296+u)%18446744073709551616=w1 at *
 have e13:=qnm (x/4294967296) (y/4294967296);generalize hs:x/4294967296*(y/4294967296)%18446744073709551616=s at *
 have e14:=qow s (t/4294967296);have e15:=qik w1;have e16:=qow ((s+t/4294967296)%18446744073709551616) (w1/4294967296);rw[hm]at e16;generalize hv:(s+t/4294967296)%18446744073709551616=v at *
 have e17:=qnm x y;generalize x%4294967296=xl at *
 generalize x/4294967296=xh at *
 generalize y%4294967296=yl at *
 generalize y/4294967296=yh at *
 generalize w0/4294967296=wh at *
 generalize t%4294967296=tl at *
 generalize t/4294967296=th at *
 generalize w1/4294967296=w1h at *
 generalize x*y/18446744073709551616=hi at *
 generalize x*y%18446744073709551616=lo at *
 rw[qab T (hT 47 F47 rfl) rfl,hr];simp[-qeO,-qeN,F47,Fr.Aa,↓qaT e1,↓qaT e2,↓qaT e3,↓qaT e4,↓qaT e5,↓qaT e6,↓qaT e7,↓qaT e8,↓qaT e9,↓qaT e10,↓qaT e11,↓qaT e12,↓qaT e13,↓qaT e14,↓qaT e15,↓qaT e16,↓qaT e17];exact hr
def qAC(a b:Int):a*b=if (a<0)=(b<0)then aI a*aI b else -(aI a*aI b):=by unfold aI;by_cases h:a<0<;>by_cases h':b<0<;>simp[h,h',Int.neg_mul,Int.mul_neg]
def qQL(T:Tab)(hT:HT T)(a b:Int)(a0 : -9223372036854775808<=a)(a1:a<9223372036854775808)(b0 : -9223372036854775808<=b)(b1:b<9223372036854775808):T.val 37 [I a,I b]=some (.d (Wd (a*b)).dv,false):=by
 have ha:0<=aI a/\aI a<=9223372036854775808:=by unfold aI;split<;>omega
 have hb:0<=aI b/\aI b<=9223372036854775808:=by unfold aI;split<;>omega
 have p0:0<=aI a*aI b:=Int.mul_nonneg ha.1 hb.1;have p1:aI a*aI b<=9223372036854775808*9223372036854775808:=qpU ha.2 hb.2 hb.1 (by omega);have e1:=qC0 T hT a a0 a1;have e2:=qC0 T hT b b0 b1;have e3:=qvt T hT (aI a) (aI b) ha.1 (by omega) hb.1 (by omega);have hm:=qAC a b;generalize aI a*aI b=P at *
 have e4:=qvu T hT P (by omega) (by omega);have w1:IntKind.i64.wrap (P/18446744073709551616)=P/18446744073709551616:=wrI (by omega) (by omega);have e5:DV.a [I (P/18446744073709551616),.i .u64 (P%18446744073709551616)]=(Wd P).dv:=wd0 rfl rfl;have ng:ngW P=-P:=by unfold ngW;rw[if_neg (by omega)]
 rw[ng]at e4;obtain⟨r,hr⟩:∃r:CG,some (.d (Wd (a*b)).dv,false)=r:=⟨_,rfl⟩;generalize aI a=A at *
 generalize aI b=B at *
 generalize P/18446744073709551616=hi at *
 generalize P%18446744073709551616=lo at *
 rw[qab T (hT 37 F37 rfl) rfl,hr];by_cases h:(a<0)=(b<0)
 ·rw[if_pos h]at hm;have hd:decide (a<0)=decide (b<0):=by simp only[h]
  simp[F37,Fr.Aa,↓qay,qc8,e1,e2,e3,w1,↓qak,↓qam,↓qal,putAt,mkA,qac,qai,qan,qaj,hd,e5];rw[<-hr,hm]
 ·rw[if_neg h]at hm;have hd:decide (a<0)=!decide (b<0):=by by_cases h1:a<0<;>by_cases h2:b<0<;>simp_all
  simp[F37,Fr.Aa,↓qay,qc8,e1,e2,e3,w1,↓qak,↓qam,↓qal,putAt,mkA,qac,qai,qan,qaj,hd,e5,e4];rw[<-hr,hm]
section
variable {R:Type}{E:Env}{ρ:Ab->PV}{H:CW}{id:Nat}{q:PV->CW->CK R}{x i:Ab}
def qct:bo2 (qaa E ρ H id (.idxS x i)) (.h q)=qec (ρ x) (ρ i) (.h λv=>q v H):=by
 cases hx:ρ x with
 |d v=>
  cases v with
  |s s=>
   cases hi:ρ i with
   |d w=>
    cases w with
    |i kk n=>rw[qwA hx hi];rfl
    |_=>simp[qaa,hx,hi,asI,qec,bo2]
   |_=>simp[qaa,hx,hi,asI,qec,bo2]
  |_=>simp[qaa,hx,qec,bo2]
 |_=>simp[qaa,hx,qec,bo2]
end
def okB(lo:Nat)(c:UInt8):CO:=decide (lo<=c.toNat)&&decide (c.toNat<=126)
def okC(c:UInt8):CO:=decide (65<=c.toNat)&&decide (c.toNat<=90)
def qdj(s:CB)(lo most:Nat):CO:=s.all (okB lo)&&decide (s.length<=most)
def qJr(T:Tab)(s:CB)(lo most:Nat)(hn:s.length<=maxLen){k:KC (PV×CO)}{r:CG}{fr:Fr}{H:CW}(hr:qfj 6 k r)(h0:gc [0,1,2,9,10] 0 ⟨fr,H⟩=⟨[(10,.d (I 0)),(9,.d (I s.length)),(2,.d (I most)),(1,.d (.i .u8 lo)),(0,.d (.s s))],[]⟩) :
  kC T.env 0 fr H (.h (.loop [0,1,2,9,10] qqU,k))=brn (s.all (okB lo)) (.h (k (.exit 0) [(11,.d (.b false)),(10,.d (I s.length)),(9,.d (I s.length)),(2,.d (I most)),(1,.d (.i .u8 lo)),(0,.d (.s s))] [],r)):=by
 have hm:=mxl;rw[qcr s (λi _=>⟨[(10,.d (I i)),(9,.d (I s.length)),(2,.d (I most)),(1,.d (.i .u8 lo)),(0,.d (.s s))],[]⟩) (λ_ _=>True) (λi _ x c=>if okB lo x=true then c ()else r) (λ_=>k (.exit 0) [(11,.d (.b false)),(10,.d (I s.length)),(9,.d (I s.length)),(2,.d (I most)),(1,.d (.i .u8 lo)),(0,.d (.s s))] []) ?_ ?_ h0 trivial]
 ·rw[qhp (okB lo) r]
  ·cases s.all (okB lo)<;>rfl
  ·exact λ_ _ _ _=>rfl
 ·intro B _ _ _;simp[qqU]
 ·intro B _ i _ hi _ c hc;have h1:(i:Int)<s.length:=by omega
  have h3:=wr1 (i:=i) (by omega);simp[qqU,↓qct,↓qbc,h1,hi,h3];repeat' (refine qbx (λh=>?_) (λh=>?_)<;>(try simp at h)<;>(try simp[h,h1,hi,h3,↓qct,↓qbc]))
  all_goals first
   | (rw[if_neg (by simp[okB];omega)];exact hr _ _ (by simp[Fr.get]) (by simp[qao,gh]))
   | (rw[if_pos (by simp[okB];omega)];exact hc () _ _ trivial (by simp))
def qJG(T:Tab)(s:CB)(lo:Nat)(hn:s.length<=maxLen){k:KC (PV×CO)}{r:CG}{fr:Fr}{H:CW}(hr:qfj 6 k r)(h0:gc [0,2,7] 0 ⟨fr,H⟩=⟨[(7,.d (I 0)),(2,.d (.i .u8 lo)),(0,.d (.s s))],[]⟩) :
  kC T.env 0 fr H (.h (.loop [0,2,7] qq8,k))=brn (s.all (okB lo)) (.h (k (.exit 0) [(15,.d (.b false)),(7,.d (I s.length)),(2,.d (.i .u8 lo)),(0,.d (.s s))] [],r)):=by
 have hm:=mxl;rw[qcr s (λi _=>⟨[(7,.d (I i)),(2,.d (.i .u8 lo)),(0,.d (.s s))],[]⟩) (λ_ _=>True) (λi _ x c=>if (okB lo) x=true then c ()else r) (λ_=>k (.exit 0) [(15,.d (.b false)),(7,.d (I s.length)),(2,.d (.i .u8 lo)),(0,.d (.s s))] []) ?_ ?_ h0 trivial]
 ·rw[qhp (okB lo) r]
  ·cases s.all (okB lo)<;>rfl
  ·exact λ_ _ _ _=>rfl
 ·intro B _ _ _;simp[qq8]
 ·intro B _ i _ hi _ c hc;have h1:(i:Int)<s.length:=by omega
  have h3:=wr1 (i:=i) (by omega);simp[qq8,↓qct,↓qbc,h1,hi,h3];repeat' (refine qbx (λh=>?_) (λh=>?_)<;>(try simp at h)<;>(try simp[h,h1,hi,h3,↓qct,↓qbc]))
  all_goals first
   | (rw[if_neg (by simp[okB,okC];omega)];exact hr _ _ (by simp[Fr.get]) (by simp[qao,gh]))
   | (rw[if_pos (by simp[okB,okC];omega)];exact hc () _ _ trivial (by simp))
def qJs(T:Tab)(s:CB)(hn:s.length<=maxLen){k:KC (PV×CO)}{r:CG}{fr:Fr}{H:CW}(hr:qfj 2 k r)(h0:gc [0,5,6] 0 ⟨fr,H⟩=⟨[(6,.d (I 0)),(5,.d (I s.length)),(0,.d (.s s))],[]⟩) :
  kC T.env 0 fr H (.h (.loop [0,5,6] qqV,k))=brn (s.all okC) (.h (k (.exit 0) [(7,.d (.b false)),(6,.d (I s.length)),(5,.d (I s.length)),(0,.d (.s s))] [],r)):=by
 have hm:=mxl;rw[qcr s (λi _=>⟨[(6,.d (I i)),(5,.d (I s.length)),(0,.d (.s s))],[]⟩) (λ_ _=>True) (λi _ x c=>if okC x=true then c ()else r) (λ_=>k (.exit 0) [(7,.d (.b false)),(6,.d (I s.length)),(5,.d (I s.length)),(0,.d (.s s))] []) ?_ ?_ h0 trivial]
 ·rw[qhp okC r]
  ·cases s.all okC<;>rfl
  ·exact λ_ _ _ _=>rfl
 ·intro B _ _ _;simp[qqV]
 ·intro B _ i _ hi _ c hc;have h1:(i:Int)<s.length:=by omega
  have h3:=wr1 (i:=i) (by omega);simp[qqV,↓qct,↓qbc,h1,hi,h3];repeat' (refine qbx (λh=>?_) (λh=>?_)<;>(try simp at h)<;>(try simp[h,h1,hi,h3,↓qct,↓qbc]))
  all_goals first
   | (rw[if_neg (by simp[okB,okC];omega)];exact hr _ _ (by simp[Fr.get]) (by simp[qao,gh]))
   | (rw[if_pos (by simp[okB,okC];omega)];exact hc () _ _ trivial (by simp))
def qJO(T:Tab)(s:CB)(hn:s.length<=maxLen){k:KC (PV×CO)}{r:CG}{fr:Fr}{H:CW}(hr:qfj 2 k r)(h0:gc [0,3] 0 ⟨fr,H⟩=⟨[(3,.d (I 0)),(0,.d (.s s))],[]⟩) :
  kC T.env 0 fr H (.h (.loop [0,3] qre,k))=brn (s.all okC) (.h (k (.exit 0) [(10,.d (.b false)),(3,.d (I s.length)),(0,.d (.s s))] [],r)):=by
 have hm:=mxl;rw[qcr s (λi _=>⟨[(3,.d (I i)),(0,.d (.s s))],[]⟩) (λ_ _=>True) (λi _ x c=>if okC x=true then c ()else r) (λ_=>k (.exit 0) [(10,.d (.b false)),(3,.d (I s.length)),(0,.d (.s s))] []) ?_ ?_ h0 trivial]
 ·rw[qhp okC r]
  ·cases s.all okC<;>rfl
  ·exact λ_ _ _ _=>rfl
 ·intro B _ _ _;simp[qre]
 ·intro B _ i _ hi _ c hc;have h1:(i:Int)<s.length:=by omega
  have h3:=wr1 (i:=i) (by omega);simp[qre,↓qct,↓qbc,h1,hi,h3];repeat' (refine qbx (λh=>?_) (λh=>?_)<;>(try simp at h)<;>(try simp[h,h1,hi,h3,↓qct,↓qbc]))
  all_goals first
   | (rw[if_neg (by simp[okB,okC];omega)];exact hr _ _ (by simp[Fr.get]) (by simp[qao,gh]))
   | (rw[if_pos (by simp[okB,okC];omega)];exact hc () _ _ trivial (by simp))
def qdU(s:CB):CO:=s.all okC&&decide (s.length=3)
def qCM(T:Tab)(hP:HP T)(s:CB)(lo most:Nat)(hn:s.length<=maxLen):T.val 183 [.s s,.i .u8 lo,I most]=some (.d (.b (qdj s lo most)),false):=by
 rw[qab T (hP 183 F183 rfl) rfl];have lp:=λk fr H r hr h0=>@qJr T s lo most hn k r fr H hr h0;simp[F183,Fr.Aa];rw[lp _ _ _ (some (.d (.b false),false)) (by simp[qop,qor,qoq]) (by simp)];unfold qdj;cases s.all (okB lo)with
 |false=>simp
 |true=>simp
def qC1(T:Tab)(hP:HP T)(s:CB)(lo most:Nat)(hn:s.length<=maxLen):T.val 685 [.s s,I most,.i .u8 lo]=some (.d (.b (qdj s lo most)),false):=by
 rw[qab T (hP 685 F685 rfl) rfl];have lp:=λk fr H r hr h0=>@qJG T s lo hn k r fr H hr h0;unfold qdj;by_cases hm:s.length<=most
 ·have h1:¬(most:Int)<s.length:=by omega
  simp[F685,Fr.Aa,h1];rw[lp _ _ _ (some (.d (.b false),false)) (by simp[qop,qor,qoq]) (by simp)];cases s.all (okB lo)with
  |false=>simp
  |true=>simp[hm]
 ·have h1:(most:Int)<s.length:=by omega
  simp[F685,Fr.Aa,h1,hm]
def qQE(T:Tab)(hP:HP T)(s:CB)(hn:s.length<=maxLen):T.val 185 [.s s]=some (.d (.b (qdU s)),false):=by
 rw[qab T (hP 185 F185 rfl) rfl];have lp:=λk fr H r hr h0=>@qJs T s hn k r fr H hr h0;simp[F185,Fr.Aa];rw[lp _ _ _ (some (.d (.b false),false)) (by simp[qop,qor,qoq]) (by simp)];unfold qdU;have hq:((s.length:Int)==3)=decide (s.length=3):=by
  by_cases h:s.length=3
  ·simp[h]
  ·have:¬(s.length:Int)=3:=by omega
   simp[h,this]
 cases s.all okC with
 |false=>simp
 |true=>simp[hq]
def qRz(T:Tab)(hP:HP T)(s:CB)(hn:s.length<=maxLen):T.val 861 [.s s]=some (.d (.b (qdU s)),false):=by
 rw[qab T (hP 861 F861 rfl) rfl];have lp:=λk fr H r hr h0=>@qJO T s hn k r fr H hr h0;unfold qdU;by_cases h:s.length=3
 ·have h1:((s.length:Int) != 3)=false:=by simp[h]
  simp[F861,Fr.Aa,h1];rw[lp _ _ _ (some (.d (.b false),false)) (by simp[qop,qor,qoq]) (by simp)];cases s.all okC with
  |false=>simp
  |true=>simp[h]
 ·have h1:((s.length:Int) != 3)=true:=by simp;omega
  simp[F861,Fr.Aa,h1,h]
def qh4(s:CB):CO:=decide (1<=s.length)&&qdj s 33 48
def qQD(T:Tab)(hP:HP T)(s:CB)(hn:s.length<=maxLen):T.val 182 [.s s]=some (.d (.b (qh4 s)),false):=by
 rw[qab T (hP 182 qjO rfl) rfl];have e:T.val 183 [.s s,.i .u8 33,I 48]=some (.d (.b (qdj s 33 48)),false):=qCM T hP s 33 48 hn;unfold qh4;cases s with
 |nil=>simp[qjO,Fr.Aa,e]
 |cons a s=>simp[qjO,Fr.Aa,e]
def qRk(T:Tab)(hP:HP T)(s:CB)(hn:s.length<=maxLen):T.val 607 [.s s]=some (.d (.b (qh4 s)),false):=by
 rw[qab T (hP 607 qfc rfl) rfl];have e:T.val 685 [.s s,I 48,.i .u8 33]=some (.d (.b (qdj s 33 48)),false):=qC1 T hP s 33 48 hn;unfold qh4;cases s with
 |nil=>simp[qfc,Fr.Aa,e]
 |cons a s=>
  have h1:(1:Int)<=(s.length:Int)+1:=by omega
  simp[qfc,Fr.Aa,e,h1]
def qvp(T:Tab)(hP:HP T)(d:Int):T.val 184 [I d]=some (.d (.b (qaZ d)),false):=by rw[qab T (hP 184 qlo rfl) rfl];by_cases h1:0<=d<;>by_cases h2:d<=73048<;>simp[qlo,Fr.Aa,qaZ,h1,h2]
def qvv(T:Tab)(hP:HP T)(d:Int):T.val 544 [I d]=some (.d (.b (qaZ d)),false):=by rw[qab T (hP 544 qfb rfl) rfl];by_cases h1:0<=d<;>by_cases h2:d<=73048<;>simp[qfb,Fr.Aa,qaZ,h1,h2]
def qDp(r:PV×CO):Prop:=∃n:Int,r=(.d (I n),false)/\0<=n/\n<=96
def qQG(T:Tab)(hS:HS T)(s:CB)(hs:s.length<=maxLen):Anx qDp (T.val 260 [.s s]):=by
 have hm:=mxl;rw[qab T (hS 260 F260 rfl) rfl];simp[F260,Fr.Aa];refine qb8 (λq:Nat×Int=>⟨[(4,.d (I q.1)),(3,.d (I q.2)),(0,.d (.s s))],[]⟩) (λq=>q.1<=s.length/\0<=q.2/\q.2<=96) (λq=>s.length-q.1) ?_ (0,0) ⟨zzK _,by omega,by omega⟩ (by simp);rintro B-⟨i,n⟩ ⟨hi,hn0,hn1⟩ hx;simp only at hi hn0 hn1⊢;by_cases hlt:i<s.length
 ·have h1:(i:Int)<s.length:=by omega
  have h3:=wr1 (i:=i) (by omega);have hb:=s[i].toNat_lt;generalize hbe:((s[i].toNat:Nat):Int)=b at *
  have hu:∀c:Int,∃u:Int,IntKind.u8.wrap (b-c)=u/\0<=u/\u<256/\IntKind.i64.wrap u=u:=by
   intro c;refine⟨_,rfl,?_⟩;rw[IntKind.wrap_u8];have:0<=(b-c)%256/\(b-c)%256<256:=by omega
   exact⟨this.1,this.2,wrI (by omega) (by omega)⟩
  obtain⟨u,u1,u2,u3,u4⟩:=hu 48;obtain⟨v,v1,v2,v3,v4⟩:=hu 65;have w1:IntKind.i64.wrap (10*n)=10*n:=wrI (by omega) (by omega);have w2:IntKind.i64.wrap (10*n+u)=10*n+u:=wrI (by omega) (by omega);have w3:IntKind.i64.wrap (100*n)=100*n:=wrI (by omega) (by omega);have w4:IntKind.i64.wrap (100*n+v)=100*n+v:=wrI (by omega) (by omega);have w5:IntKind.i64.wrap (100*n+v+10)=100*n+v+10:=wrI (by omega) (by omega);have t1:0<=(10*n+u).tmod 97/\(10*n+u).tmod 97<=96:=by rw[Int.tmod_eq_emod_of_nonneg (by omega)];omega
  have t2:0<=(100*n+v+10).tmod 97/\(100*n+v+10).tmod 97<=96:=by rw[Int.tmod_eq_emod_of_nonneg (by omega)];omega
  have hx1:=hx (i+1,(10*n+u).tmod 97) ⟨by simp only;omega,t1⟩ (by simp only;omega);have hx2:=hx (i+1,(100*n+v+10).tmod 97) ⟨by simp only;omega,t2⟩ (by simp only;omega);simp[qv1,↓qct,↓qbc,h1,hlt,h3,hbe];refine qcg (λh=>?_) (λh=>?_)
  ·simp[↓qct,↓qbc,↓qay,↓qaR,h1,hlt,h3,hbe,u1,u4,w1,w2];exact hx1 _ _ (by simp)
  ·simp[↓qct,↓qbc,↓qay,↓qaR,h1,hlt,h3,hbe,v1,v4,w3,w4,w5];exact hx2 _ _ (by simp)
 ·have h1:¬((i:Int)<s.length):=by omega
  simp[qv1,h1];exact qaf ⟨n,rfl,hn0,hn1⟩
def qcs{T:Tab}{f:Nat}{a:CL (K×CL TA)}(h:qap T f ⟨a,[(none,[.b])]⟩)(d:Nat){ds:Cy}(hd:qbO d a ds):∃b own,T.val f ds=some (.d (.b b),own):=by
 obtain⟨vs,own,h1,h2⟩:=h d ds hd;cases vs with
 |nil=>exact h2.elim
 |cons v vs=>
  cases vs with
  |cons=>exact h2.2.elim
  |nil=>obtain⟨cs,c1,c2⟩:=h2.1;obtain⟨w,r,rfl,⟨b,rfl⟩,c3⟩:=qa0 c2;obtain rfl:=qck c3;cases c1;exact⟨b,own,h1⟩
def qcU{T:Tab}{f:Nat}{a:CL (K×CL TA)}(h:qap T f ⟨a,[(none,[.i .i64])]⟩)(d:Nat){ds:Cy}(hd:qbO d a ds):∃n own,T.val f ds=some (.d (I n),own)/\(Lit.int .i64 n).wf=true:=by
 obtain⟨vs,own,h1,h2⟩:=h d ds hd;cases vs with
 |nil=>exact h2.elim
 |cons v vs=>
  cases vs with
  |cons=>exact h2.2.elim
  |nil=>obtain⟨cs,c1,c2⟩:=h2.1;obtain⟨w,r,rfl,⟨b,rfl,hw⟩,c3⟩:=qa0 c2;obtain rfl:=qck c3;cases c1;exact⟨b,own,h1,hw⟩
def qgB{d:Nat}{s:CB}(hs:s.length<=maxLen):HsK d (none,[.s]) (.s s):=⟨[.s s],rfl,⟨s,rfl,hs⟩,trivial⟩
def qcO{d:Nat}{n:Int}(h:(Lit.int .i64 n).wf=true):HsK d (none,[.i .i64]) (I n):=⟨[I n],rfl,⟨n,rfl,h⟩,trivial⟩
def qr1:∀q:Nat,q<10->∃c:UInt8,List.drop q (48::List.take q [49,50,51,52,53,54,55,56,57])=[c]
 |0,_=>⟨_,rfl⟩|1,_=>⟨_,rfl⟩|2,_=>⟨_,rfl⟩|3,_=>⟨_,rfl⟩|4,_=>⟨_,rfl⟩|5,_=>⟨_,rfl⟩|6,_=>⟨_,rfl⟩|7,_=>⟨_,rfl⟩|8,_=>⟨_,rfl⟩|9,_=>⟨_,rfl⟩
 |n+10,h=>absurd h (by omega)
def qDt(r:PV×CO):Prop:=∃(w:CB) (e:Int),r=(.t [.d (.s w),.d (I e)],false)/\w.length<=maxLen/\(Lit.int .i64 e).wf=true
def qCL(T:Tab)(hS:HS T)(s:CB)(hs:s.length<=maxLen):Anx qDt (T.val 177 [.s s]):=by
 have hm:=mxl;obtain⟨b,own,e259⟩:=qcs (qDE T hS) 0 (ds:=[.s s]) ⟨qgB hs,trivial⟩;rw[qab T (hS 177 qhE rfl) rfl];by_cases g1:s.length<1
 ·have g1':s=[]:=List.length_eq_zero_iff.1 (by omega);subst g1';simp[qhE,Fr.Aa];exact qaf ⟨_,_,rfl,by simp,by decide⟩
 have g1':¬((s.length:Int)<1):=by omega
 by_cases g2:46<s.length
 ·have g2':(46:Int)<s.length:=by omega
  simp[qhE,Fr.Aa,g1,g1',g2,g2'];exact qaf ⟨_,_,rfl,by simp,by decide⟩
 have g2':¬((46:Int)<s.length):=by omega
 cases b with
 |false=>simp[qhE,Fr.Aa,g1,g1',g2,g2',e259];exact qaf ⟨_,_,rfl,by simp,by decide⟩
 |true=>
  obtain⟨r,e260,n,rfl,n0,n1⟩:=qQG T hS (s++[48,48]) (by rw[zzp];simp;omega);have k1:IntKind.i64.wrap (98-n)=98-n:=wrI (by omega) (by omega);obtain⟨q,hq,q1⟩:∃q:Nat,q<10/\(98-n).tdiv 10=q:=by rw[Int.tdiv_eq_ediv_of_nonneg (by omega)];exact⟨((98-n)/10).toNat,by omega,by omega⟩
  obtain⟨p,hp,p1⟩:∃p:Nat,p<10/\(98-n).tmod 10=p:=by rw[Int.tmod_eq_emod_of_nonneg (by omega)];exact⟨((98-n)%10).toNat,by omega,by omega⟩
  have q2:IntKind.i64.wrap (q:Int)=q:=wrI (by omega) (by omega);have q3:IntKind.i64.wrap ((q:Int)+1)=(q:Int)+1:=wrI (by omega) (by omega);have p3:IntKind.i64.wrap ((p:Int)+1)=(p:Int)+1:=wrI (by omega) (by omega);obtain⟨c,hc⟩:=qr1 q hq;obtain⟨c2,hc2⟩:=qr1 p hp;have b1:(q:Int)+1<=10:=by omega
  have m1:min q 9+1-q=1:=by omega
  have m2:min p 9+1-p=1:=by omega
  have b2:(p:Int)+1<=10:=by omega
  have b3:(q:Int)<=(q:Int)+1:=by omega
  have b4:(p:Int)<=(p:Int)+1:=by omega
  have l1:s.length+2<4611686018427387904:=by omega
  have l2:s.length+1<4611686018427387904:=by omega
  have l3:s.length+1+1<4611686018427387904:=by omega
  have b5:(0:Int)<=(q:Int)+1:=by omega
  have b6:(0:Int)<=(p:Int)+1:=by omega
  simp[qhE,Fr.Aa,g1,g1',g2,g2',e259,e260,k1,q1,q2,q3,p1,p3,hc,hc2,b1,b2,b3,b4,b5,b6,l1,l2,l3,m1,m2,↓qbm,↓qbn,↓qbg,↓qbz,↓qbp,↓qbJ,↓qbd,qbh,↓qbf,↓qbw,↓qbA,↓qbB,↓qbu,↓qbv,↓qbe,↓qby,↓qbj,↓qbR,↓qbQ,↓qdZ,↓qbH,↓qbE,↓qd8,↓qd7,↓qbl,↓qdV,↓qb2,↓qdW,↓qdY,↓qdX,↓qbG,↓qbF,↓qd1,↓qd3,↓qd6,↓qd5,↓qd4,↓qd0,↓qd2,↓qd9,↓qbC,↓qbD,qa3,Ar,Az,qas,qaP,chg,qaY,runs,qaM,qaX,PV.refs,PV.Av,IOp.okD,IOp.Bg,qbk,Nat.testBit];exact qaf ⟨_,_,rfl,by simp;omega,by decide⟩
def qDu(r:PV×CO):Prop:=∃(w:CB),r=(.d (.s w),false)/\w.length<=maxLen
def qQx(T:Tab)(hS:HS T)(id:Int)(hid:(Lit.int .i64 id).wf=true):Anx qDu (T.val 106 [I id]):=by
 have hm:=mxl;rw[qab T (hS 106 F106 rfl) rfl];by_cases g1:id<1000
 ·simp[F106,Fr.Aa,g1];exact qaf ⟨_,rfl,by simp⟩
 by_cases g2:99999999<id
 ·simp[F106,Fr.Aa,g1,g2];exact qaf ⟨_,rfl,by simp⟩
 simp[F106,Fr.Aa,g1,g2];refine qb8 (λq:Nat×Int×CB=>⟨[(4,.d (I q.1)),(3,.d (.s q.2.2)),(0,.d (I q.2.1))],[]⟩) (λq=>q.1<=8/\0<=q.2.1/\q.2.1<=99999999/\q.2.2.length=q.1) (λq=>8-q.1) ?_ (0,id,[]) ⟨by simp only;omega,by simp only;omega,by simp only;omega,rfl⟩ (by simp);rintro B-⟨i,m,s⟩ ⟨hi,hn0,hn1,hl⟩ hx;simp only at hi hn0 hn1 hl⊢;by_cases hlt:i<8
 ·have h1:(i:Int)<8:=by omega
  have h3:=wr1 (i:=i) (by omega);obtain⟨p,hp,p1⟩:∃p:Nat,p<10/\m.tmod 10=p:=by rw[Int.tmod_eq_emod_of_nonneg (by omega)];exact⟨(m%10).toNat,by omega,by omega⟩
  have hq:0<=m.tdiv 10/\m.tdiv 10<=99999999:=by rw[Int.tdiv_eq_ediv_of_nonneg (by omega)];omega
  have q1:IntKind.i64.wrap (m.tdiv 10)=m.tdiv 10:=wrI (by omega) (by omega);have p3:IntKind.i64.wrap ((p:Int)+1)=(p:Int)+1:=wrI (by omega) (by omega);obtain⟨c2,hc2⟩:=qr1 p hp;have b2:(p:Int)+1<=10:=by omega
  have b4:(p:Int)<=(p:Int)+1:=by omega
  have b6:(0:Int)<=(p:Int)+1:=by omega
  have m2:min p 9+1-p=1:=by omega
  have l2:1+s.length<4611686018427387904:=by omega
  have hx1:=hx (i+1,m.tdiv 10,c2::s) ⟨by simp only;omega,hq.1,hq.2,by simp[hl]⟩ (by simp only;omega);simp[qvZ,h1,h3,p1,p3,q1,hc2,b2,b4,b6,m2,l2];exact hx1 _ _ (by simp)
 ·have h1:¬((i:Int)<8):=by omega
  have l2:s.length+1+1<4611686018427387904:=by omega
  have l3:2+s.length<4611686018427387904:=by omega
  obtain⟨r,e177,w,e,rfl,hw,he⟩:=qCL T hS (67::66::s) (by simp;omega);simp[qvZ,h1,e177,l2,l3];exact qaf ⟨w,rfl,hw⟩
def qGC(T:Tab)(hS:HS T):qap T 177 qBY:=by
 intro d ds hd;cases ds with
 |nil=>exact hd.elim
 |cons x ds=>
  cases ds with
  |cons=>exact hd.2.elim
  |nil=>obtain⟨cs,c1,c2⟩:=hd.1;obtain⟨w,r,rfl,⟨s,rfl,hs⟩,c3⟩:=qa0 c2;obtain rfl:=qck c3;cases c1;obtain⟨r,e,w,n,rfl,hw,hn⟩:=qCL T hS s hs;exact⟨[.s w,I n],false,e,qgB hw,qcO hn,trivial⟩
def qGA(T:Tab)(hS:HS T):qap T 106 qus:=by
 intro d ds hd;cases ds with
 |nil=>exact hd.elim
 |cons x ds=>
  cases ds with
  |cons=>exact hd.2.elim
  |nil=>obtain⟨cs,c1,c2⟩:=hd.1;obtain⟨w,r,rfl,⟨n,rfl,hn⟩,c3⟩:=qa0 c2;obtain rfl:=qck c3;cases c1;obtain⟨r,e,w,rfl,hw⟩:=qQx T hS n hn;exact⟨[.s w],false,e,qgB hw,trivial⟩
def qg7(o:Nat):Cy->PV
 |[]=>.d (.l K0 [] true)
 |[_]=>.r o K0 0 1 true
 |l=>.r o K0 0 l.length false
def qg8:Cy->CW
 |[]=>[]
 |l=>[some (.sl K0 0 l)]
section
variable {R:Type}{H:CW}{id:Nat}{k:K}{b:Nat}{q:PV->CW->CK R}
def qiJ{o off len:Nat}{k':K}:bo2 (qc6 H id k b (.r o k' off len true) []) (.h q)=match H.obj o with
  |some (.sl k'' _ es)=>chk ((K.eq k k'&&K.eq k k''&&decide (off+len<=es.length)&&decide (len*b<=2^47))=true) (.h (q (.r o k' off len true) H))
  |_=>none:=by
 simp only[qc6,qcb,qbb,qcD,Bool.true_or,if_true,chk,List.length_nil,Nat.add_zero,List.isEmpty_nil,Bool.or_true];cases H.obj o with
 |none=>rfl
 |some x=>
  cases x with
  |sl k'' ro es=>simp only;split<;>rfl
  |_=>rfl
end
def IsL(m:Nat)(r:PV×CO):Prop:=∃(l:Cy) (own:CO),r=(.d (.l K0 l false),own)/\l.length<=m/\∀x∈l,∃n,x=I n/\(Lit.int .i64 n).wf=true
def qmx{i:Int}{l:Cy}(wi:(Lit.int .i64 i).wf=true)(hw:∀x∈l,∃n,x=I n/\(Lit.int .i64 n).wf=true):∀x∈I i::l,∃n,x=I n/\(Lit.int .i64 n).wf=true:=by
 intro x hx;rcases List.mem_cons.1 hx with rfl|hx
 ·exact⟨i,rfl,wi⟩
 ·exact hw x hx
def qxQ(T:Tab)(hS:HS T){es:Cy}{t:CO}{d:Nat}(hX:HsK d (K0,[.l (K1 4) 3518437208883 tGl]) (.l (K1 4) es t))(n:Int)(hn:(Lit.int .i64 n).wf=true) :
  ∃i p k s b own,T.val 540 [.l (K1 4) es t,I n]=some (.t [.d (AGl.dv ⟨i,p,k,s⟩),.d (.b b)],own)/\(Lit.int .i64 i).wf=true/\(Lit.int .i64 p).wf=true:=by
 obtain⟨vs,own,h1,h2⟩:=qou T hS d [.l (K1 4) es t,I n] ⟨hX,qcO hn,trivial⟩;cases vs with
 |nil=>exact h2.elim
 |cons v vs=>
  cases vs with
  |nil=>exact h2.2.elim
  |cons w vs=>
   cases vs with
   |cons=>exact h2.2.2.elim
   |nil=>obtain⟨⟨cs,c1,c2⟩,⟨ds,d1,d2⟩,-⟩:=h2;obtain⟨w1,r1,rfl,⟨i,rfl,q1⟩,c3⟩:=qa0 c2;obtain⟨w2,r2,rfl,⟨p,rfl,q2⟩,c4⟩:=qa0 c3;obtain⟨w3,r3,rfl,⟨k,rfl,q3⟩,c5⟩:=qa0 c4;obtain⟨w4,r4,rfl,⟨s,rfl,q4⟩,c6⟩:=qa0 c5;obtain rfl:=qck c6;obtain⟨w5,r5,rfl,⟨b,rfl⟩,d3⟩:=qa0 d2;obtain rfl:=qck d3;cases d1;have e:v=AGl.dv ⟨i,p,k,s⟩:=(Option.some.inj c1).symm;subst e;exact⟨i,p,k,s,b,own,h1,q1,q2⟩
def qQz(T:Tab)(hS:HS T){es:Cy}{t:CO}{d:Nat}(hX:HsK d (K0,[.l (K1 4) 3518437208883 tGl]) (.l (K1 4) es t))(n:Int)(hn:(Lit.int .i64 n).wf=true):Anx (IsL 40) (T.val 1103 [.l (K1 4) es t,I n]):=by
 obtain⟨i0,p0,k0,s0,b0,own0,e0,wi0,wp0⟩:=qxQ T hS hX n hn;rw[qab T (hS 1103 F1103 rfl) rfl];simp[F1103,Fr.Aa,e0];refine qb8 (λq:Cy×CO×(Int×Int×Int×CB)=>⟨[(7,.d (.b q.2.1)),(6,.p 0 0 0),(5,qg7 1 q.1),(0,.d (.l (K1 4) es t))],some (.box (K1 4) (.d (AGl.dv ⟨q.2.2.1,q.2.2.2.1,q.2.2.2.2.1,q.2.2.2.2.2⟩)))::qg8 q.1⟩) (λq=>q.1.length<=40/\(∀x∈q.1,∃n,x=I n/\(Lit.int .i64 n).wf=true)/\(Lit.int .i64 q.2.2.1).wf=true/\(Lit.int .i64 q.2.2.2.1).wf=true) (λq=>40-q.1.length) ?_ ([],b0,i0,p0,k0,s0) ⟨by simp,by simp,wi0,wp0⟩ (by simp[qg7,qg8]);rintro B-⟨l,b,i,p,k,s⟩ ⟨hl,hw,wi,wp⟩ hx;simp only at hl hw wi wp⊢;cases b with
 |false=>
  match l,hl,hw with
  |[],hl,hw=>simp[qiD,qg7,qg8];exact qaf ⟨[],_,rfl,by simp,hw⟩
  |[x],hl,hw=>simp[qiD,qg7,qg8];exact qaf ⟨[x],_,rfl,by simp,hw⟩
  |x::y::l,hl,hw=>simp[qiD,qg7,qg8];exact qaf ⟨x::y::l,_,rfl,hl,hw⟩
 |true=>
  obtain⟨i2,p2,k2,s2,b2,own2,e2,wi2,wp2⟩:=qxQ T hS hX p wp;by_cases g40:l.length<40
  ·have hx':=hx (I i::l,b2,i2,p2,k2,s2) ⟨by simp only[zzn];omega,qmx wi hw,wi2,wp2⟩ (by simp only[zzn];omega);clear hx
   match l,hl,hw,hx',g40 with
   |[],hl,hw,hx',g40=>
    simp only[qg7,qg8]at hx'⊢;simp[qiD,↓qiJ,g40];refine qcg (λh=>?_) (λh=>?_)
    ·simp;exact qaf ⟨[I i],_,rfl,by simp,qmx wi hw⟩
    ·simp[e2];exact hx' _ _ (by simp)
   |[x],hl,hw,hx',g40=>
    simp only[qg7,qg8]at hx'⊢;simp[qiD,↓qiJ,g40];refine qcg (λh=>?_) (λh=>?_)
    ·simp;exact qaf ⟨[I i,x],_,rfl,by simp,qmx wi hw⟩
    ·simp[e2];exact hx' _ _ (by simp)
   |x::y::l,hl,hw,hx',g40=>
    simp only[qg7,qg8]at hx'⊢;have g1:(l.length:Int)+1+1<40:=by simp only[zzn]at g40;omega
    have g2:(1+(l.length+1+1))*8<=140737488355328:=by simp only[zzn]at g40;omega
    have g3:l.length+1+1+1=1+(l.length+1+1):=by omega
    have ht:l.take l.length=l:=zzv (zzt _);have tk:List.take (1+(l.length+1+1)) (I i::x::y::l)=I i::x::y::l:=zzv (by simp only[zzn];omega);simp[qiD,↓qiJ,g1,g2,ht];refine qcg (λh=>?_) (λh=>?_)
    ·simp[g3,ht];exact qaf ⟨I i::x::y::l,_,by rw[tk],by simp only[zzn]at g40⊢;omega,qmx wi hw⟩
    ·simp[e2];exact hx' _ _ (by simp;omega)
  ·match l,hl,hw,g40 with
   |[],hl,hw,g40=>exact absurd (by simp) g40
   |[x],hl,hw,g40=>exact absurd (by simp) g40
   |x::y::l,hl,hw,g40=>
    have g1:¬((l.length:Int)+1+1<40):=by simp only[zzn]at g40;omega
    simp[qiD,qg7,qg8,g1];exact qaf ⟨x::y::l,_,rfl,hl,hw⟩
def qyO{d m:Nat}{r:PV×CO}(h:IsL m r)(hm:m<=9223372036854775807):∃vs own,r=(qbi (vs.map .d),own)/\qbO d [(K0,[.l K0 9223372036854775807 [.i .i64]])] vs:=by obtain⟨l,own,rfl,hl,hw⟩:=h;have hmx:maxLen=9223372036854775807:=rfl;refine⟨[.l K0 l false],own,rfl,⟨[.l K0 l false],rfl,⟨l,false,rfl,by omega,by omega,λe he=>?_⟩,trivial⟩,trivial⟩;obtain⟨n,rfl,hn⟩:=hw e he;exact⟨[I n],rfl,⟨n,rfl,hn⟩,trivial⟩
def glI{d:Nat}{ds:Cy}(hd:qbO d [(K0,[.l (K1 4) 3518437208883 tGl]),(K0,[.i .i64])] ds):∃es t n,ds=[.l (K1 4) es t,I n]/\HsK d (K0,[.l (K1 4) 3518437208883 tGl]) (.l (K1 4) es t)/\(Lit.int .i64 n).wf=true/\es.length<=3518437208883:=by
 cases ds with
 |nil=>exact hd.elim
 |cons x ds=>
  cases ds with
  |nil=>exact hd.2.elim
  |cons y ds=>
   cases ds with
   |cons=>exact hd.2.2.elim
   |nil=>obtain⟨h1,⟨cs,c1,c2⟩,-⟩:=hd;obtain⟨w5,r5,rfl,⟨n,rfl,hn⟩,d3⟩:=qa0 c2;obtain rfl:=qck d3;cases c1;obtain⟨ds,q1,q2⟩:=id h1;obtain⟨w,r,rfl,⟨es,t,rfl,h3,h4,h5⟩,d3⟩:=qa0 q2;obtain rfl:=qck d3;cases q1;exact⟨es,t,n,rfl,h1,hn,h4⟩
def qyt(T:Tab)(hS:HS T):qap T 1103 quy:=by intro d ds hd;obtain⟨es,t,n,rfl,h1,hn,_⟩:=glI hd;obtain⟨r,e,hr⟩:=qQz T hS h1 n hn;obtain⟨vs,own,rfl,hv⟩:=qyO (d:=d) hr (by omega);exact⟨vs,own,e,hv⟩
end
section
variable {R:Type}{E:Env}{ρ:Ab->PV}{H:CW}{id:Nat}{q:PV->CW->CK R}{x i:Ab}
def qbM:bo2 (qaa E ρ H id (.idxS x i)) (.h q)=qec (ρ x) (ρ i) (.h λv=>q v H):=by
 cases hx:ρ x with
 |d v=>
  cases v with
  |s s=>
   cases hi:ρ i with
   |d w=>
    cases w with
    |i kk n=>rw[qwA hx hi];rfl
    |_=>simp[qaa,hx,hi,asI,qec,bo2]
   |_=>simp[qaa,hx,hi,asI,qec,bo2]
  |_=>simp[qaa,hx,qec,bo2]
 |_=>simp[qaa,hx,qec,bo2]
end
def qte:CB:=[0,1,2,2,3,3,3,3,4,4,4,4,4,4,4,4,5,5,5,5,5,5,5,5,5,5,5,5,5,5,5,5,6,6,6,6,6,6,6,6,6,6,6,6,6,6,6,6,6,6,6,6,6,6,6,6,6,6,6,6,6,6,6,6,7,7,7,7,7,7,7,7,7,7,7,7,7,7,7,7,7,7,7,7,7,7,7,7,7,7,7,7,7,7,7,7,7,7,7,7,7,7,7,7,7,7,7,7,7,7,7,7,7,7,7,7,7,7,7,7,7,7,7,7,7,7,7,7,8,8,8,8,8,8,8,8,8,8,8,8,8,8,8,8,8,8,8,8,8,8,8,8,8,8,8,8,8,8,8,8,8,8,8,8,8,8,8,8,8,8,8,8,8,8,8,8,8,8,8,8,8,8,8,8,8,8,8,8,8,8,8,8,8,8,8,8,8,8,8,8,8,8,8,8,8,8,8,8,8,8,8,8,8,8,8,8,8,8,8,8,8,8,8,8,8,8,8,8,8,8,8,8,8,8,8,8,8,8,8,8,8,8,8,8,8,8,8,8,8,8,8,8,8,8,8,8]
set_option maxRecDepth 100000 in
def qJe(i:Nat)(h:i<256):qte[i]? = some (UInt8.ofNat (Go.bitLen i)):=by
 have all:∀j:Fin 256,qte[j.val]? = some (UInt8.ofNat (Go.bitLen j.val)):=by decide +kernel
 exact all ⟨i,h⟩
def qh1{R:Type}(m:Nat)(hm:m<256){d:PV->CK R}:qec (.d (.s qte)) (.d (.i .u8 (m:Int))) (.h d)=d (.d (.i .u8 (Go.bitLen m:Nat))):=by
 have h8:=Go.bitLen_le8 m hm;rw[qbc];simp only[chk,Int.toNat_natCast,qJe m hm,bo];rw[if_pos (by omega)];have:(UInt8.ofNat (Go.bitLen m)).toNat=Go.bitLen m:=by rw[UInt8.toNat_ofNat'];omega
 rw[this]
def qjk{x b:Nat}(h:2^b<=x):Go.bitLen x=b+Go.bitLen (x/2^b):=by apply Go.bitLen_shift;have:=Nat.div_pos h (Nat.two_pow_pos b);omega
def qRs(T:Tab)(hT:HT T)(x:Nat)(hx:x<18446744073709551616):T.val 74 [.i .u64 (x:Int)]=some (.d (I (Go.bitLen x:Nat)),false):=by
 rw[qab T (hT 74 F74 rfl) rfl];obtain⟨a,ea⟩:∃a,a=if 4294967296<=x then x/4294967296 else x:=⟨_,rfl⟩;obtain⟨b,eb⟩:∃b,b=if 65536<=a then a/65536 else a:=⟨_,rfl⟩;obtain⟨c,ec⟩:∃c,c=if 256<=b then b/256 else b:=⟨_,rfl⟩;have ha:a<4294967296:=by rw[ea];split<;>omega
 have hb:b<65536:=by rw[eb];split<;>omega
 have hc:c<256:=by rw[ec];split<;>omega
 have w:∀n:Int,0<=n->n<=100->IntKind.i64.wrap n=n:=λn h h'=>wrI (by omega) (by omega);have w8:IntKind.u8.wrap (c:Int)=(c:Int):=by rw[IntKind.wrap_u8];omega
 have h8:=Go.bitLen_le8 c hc;have wc:IntKind.i64.wrap ((Go.bitLen c:Nat):Int)=((Go.bitLen c:Nat):Int):=wrI (by omega) (by omega);obtain⟨r,hr⟩:∃r:CG,some (.d (I (Go.bitLen x:Nat)),false)=r:=⟨_,rfl⟩;have s1:=qik (x:Int);have s2:=qnL (a:Int) 16 (by omega);have s3:=qnL (b:Int) 8 (by omega);rw[show ((16:Nat):Int)=16 from rfl]at s2;rw[show ((8:Nat):Int)=8 from rfl]at s3;have wk1:IntKind.i64.wrap 8=8:=by decide
 have wk2:IntKind.i64.wrap 16=16:=by decide
 have wk3:IntKind.i64.wrap 24=24:=by decide
 have wk4:IntKind.i64.wrap 32=32:=by decide
 have wk5:IntKind.i64.wrap 40=40:=by decide
 have wk6:IntKind.i64.wrap 48=48:=by decide
 have wk7:IntKind.i64.wrap 56=56:=by decide
 rw[hr];have key:∀z:Int,z=(Go.bitLen x:Nat)->some (PV.d (I z),false)=r:=λz hz=>by rw[hz];exact hr
 by_cases h1:4294967296<=x
 ·rw[if_pos h1]at ea;have g1:(4294967296:Int)<=(x:Int):=by omega
  rw[show (x:Int)/4294967296=(a:Int)by omega]at s1;have l1:=qjk (x:=x) (b:=32) h1;rw[show x/2^32=a by rw[ea]]at l1;by_cases h2:65536<=a
  ·rw[if_pos h2]at eb;have g2:(65536:Int)<=(a:Int):=by omega
   rw[show (a:Int)/2^16=(b:Int)by rw[eb];norm_cast]at s2;have l2:=qjk (x:=a) (b:=16) h2;rw[show a/2^16=b by rw[eb]]at l2;by_cases h3:256<=b
   ·rw[if_pos h3]at ec;have g3:(256:Int)<=(b:Int):=by omega
    rw[show (b:Int)/2^8=(c:Int)by rw[ec];norm_cast]at s3;have l3:=qjk (x:=b) (b:=8) h3;rw[show b/2^8=c by rw[ec]]at l3;simp[F74,Fr.Aa,↓qbM,↓qay,↓qaR,g1,g2,g3,↓qaT s1,↓qaT s2,↓qaT s3,w8];have wz:IntKind.i64.wrap (56+((Go.bitLen c:Nat):Int))=56+((Go.bitLen c:Nat):Int):=wrI (by omega) (by omega);refine (qh1 c hc).trans ?_;simp[↓qay,↓qaR,wc,wk1,wk2,wk3,wk4,wk5,wk6,wk7,wz];exact key _ (by omega)
   ·rw[if_neg h3]at ec;have g3:¬(256:Int)<=(b:Int):=by omega
    subst ec;simp[F74,Fr.Aa,↓qbM,↓qay,↓qaR,g1,g2,g3,↓qaT s1,↓qaT s2,w8];have wz:IntKind.i64.wrap (48+((Go.bitLen c:Nat):Int))=48+((Go.bitLen c:Nat):Int):=wrI (by omega) (by omega);refine (qh1 c hc).trans ?_;simp[↓qay,↓qaR,wc,wk1,wk2,wk3,wk4,wk5,wk6,wk7,wz];exact key _ (by omega)
  ·rw[if_neg h2]at eb;have g2:¬(65536:Int)<=(a:Int):=by omega
   subst eb;by_cases h3:256<=b
   ·rw[if_pos h3]at ec;have g3:(256:Int)<=(b:Int):=by omega
    rw[show (b:Int)/2^8=(c:Int)by rw[ec];norm_cast]at s3;have l3:=qjk (x:=b) (b:=8) h3;rw[show b/2^8=c by rw[ec]]at l3;simp[F74,Fr.Aa,↓qbM,↓qay,↓qaR,g1,g2,g3,↓qaT s1,↓qaT s3,w8];have wz:IntKind.i64.wrap (40+((Go.bitLen c:Nat):Int))=40+((Go.bitLen c:Nat):Int):=wrI (by omega) (by omega);refine (qh1 c hc).trans ?_;simp[↓qay,↓qaR,wc,wk1,wk2,wk3,wk4,wk5,wk6,wk7,wz];exact key _ (by omega)
   ·rw[if_neg h3]at ec;have g3:¬(256:Int)<=(b:Int):=by omega
    subst ec;simp[F74,Fr.Aa,↓qbM,↓qay,↓qaR,g1,g2,g3,↓qaT s1,w8];have wz:IntKind.i64.wrap (32+((Go.bitLen c:Nat):Int))=32+((Go.bitLen c:Nat):Int):=wrI (by omega) (by omega);refine (qh1 c hc).trans ?_;simp[↓qay,↓qaR,wc,wk1,wk2,wk3,wk4,wk5,wk6,wk7,wz];exact key _ (by omega)
 ·rw[if_neg h1]at ea;have g1:¬(4294967296:Int)<=(x:Int):=by omega
  subst ea;by_cases h2:65536<=a
  ·rw[if_pos h2]at eb;have g2:(65536:Int)<=(a:Int):=by omega
   rw[show (a:Int)/2^16=(b:Int)by rw[eb];norm_cast]at s2;have l2:=qjk (x:=a) (b:=16) h2;rw[show a/2^16=b by rw[eb]]at l2;by_cases h3:256<=b
   ·rw[if_pos h3]at ec;have g3:(256:Int)<=(b:Int):=by omega
    rw[show (b:Int)/2^8=(c:Int)by rw[ec];norm_cast]at s3;have l3:=qjk (x:=b) (b:=8) h3;rw[show b/2^8=c by rw[ec]]at l3;simp[F74,Fr.Aa,↓qbM,↓qay,↓qaR,g1,g2,g3,↓qaT s2,↓qaT s3,w8];have wz:IntKind.i64.wrap (24+((Go.bitLen c:Nat):Int))=24+((Go.bitLen c:Nat):Int):=wrI (by omega) (by omega);refine (qh1 c hc).trans ?_;simp[↓qay,↓qaR,wc,wk1,wk2,wk3,wk4,wk5,wk6,wk7,wz];exact key _ (by omega)
   ·rw[if_neg h3]at ec;have g3:¬(256:Int)<=(b:Int):=by omega
    subst ec;simp[F74,Fr.Aa,↓qbM,↓qay,↓qaR,g1,g2,g3,↓qaT s2,w8];have wz:IntKind.i64.wrap (16+((Go.bitLen c:Nat):Int))=16+((Go.bitLen c:Nat):Int):=wrI (by omega) (by omega);refine (qh1 c hc).trans ?_;simp[↓qay,↓qaR,wc,wk1,wk2,wk3,wk4,wk5,wk6,wk7,wz];exact key _ (by omega)
  ·rw[if_neg h2]at eb;have g2:¬(65536:Int)<=(a:Int):=by omega
   subst eb;by_cases h3:256<=b
   ·rw[if_pos h3]at ec;have g3:(256:Int)<=(b:Int):=by omega
    rw[show (b:Int)/2^8=(c:Int)by rw[ec];norm_cast]at s3;have l3:=qjk (x:=b) (b:=8) h3;rw[show b/2^8=c by rw[ec]]at l3;simp[F74,Fr.Aa,↓qbM,↓qay,↓qaR,g1,g2,g3,↓qaT s3,w8];have wz:IntKind.i64.wrap (8+((Go.bitLen c:Nat):Int))=8+((Go.bitLen c:Nat):Int):=wrI (by omega) (by omega);refine (qh1 c hc).trans ?_;simp[↓qay,↓qaR,wc,wk1,wk2,wk3,wk4,wk5,wk6,wk7,wz];exact key _ (by omega)
   ·rw[if_neg h3]at ec;have g3:¬(256:Int)<=(b:Int):=by omega
    subst ec;simp[F74,Fr.Aa,↓qbM,↓qay,↓qaR,g1,g2,g3,w8];refine (qh1 c hc).trans ?_;simp[↓qay,↓qaR,wc];exact key _ (by omega)
def qtf{x:Nat}(hx:x<18446744073709551616):Go.bitLen x<=64:=by
 unfold Go.bitLen;split
 ·omega
 ·rename_i h;have:=(Nat.log2_lt h).2 (show x<2^64 from hx);omega
def qRr(T:Tab)(hT:HT T)(x:Nat)(hx:x<18446744073709551616):T.val 73 [.i .u64 (x:Int)]=some (.d (I ((64-Go.bitLen x:Nat):Int)),false):=by
 have e:=qRs T hT x hx;have hl:=qtf hx;have w:IntKind.i64.wrap (64-((Go.bitLen x:Nat):Int))=((64-Go.bitLen x:Nat):Int):=by rw[wrI (by omega) (by omega)];omega
 rw[qab T (hT 73 F73 rfl) rfl];simp[F73,Fr.Aa,e,w]
def qJ4{y:Nat}(h0:0<y)(h1:y<18446744073709551616):9223372036854775808<=y*2^(64-Go.bitLen y)/\y*2^(64-Go.bitLen y)<18446744073709551616:=by
 obtain⟨b1,b2⟩:=Go.bitLen_spec y;have b2:=b2 (by omega);have hl:=qtf h1;have hp:0<Go.bitLen y:=by unfold Go.bitLen;rw[if_neg (by omega)];omega
 constructor
 ·have:2^(Go.bitLen y-1)*2^(64-Go.bitLen y)<=y*2^(64-Go.bitLen y):=zzh _ b2;rw[<-Nat.pow_add,show Go.bitLen y-1+(64-Go.bitLen y)=63 by omega]at this;exact this
 ·have:y*2^(64-Go.bitLen y)<2^Go.bitLen y*2^(64-Go.bitLen y):=Nat.mul_lt_mul_of_pos_right b1 (Nat.two_pow_pos _);rw[<-Nat.pow_add,show Go.bitLen y+(64-Go.bitLen y)=64 by omega]at this;exact this
section
attribute [local simp ↓] qbm qbn qbg qbz qbp qbJ qbd qbf qbw qbA qbB qbu qbv qbe qby qbj qbR qbQ qdZ qbH qbE qd8 qd7 qbl qdV qb2 qdW qdY qdX qbG qbF qd1 qd3 qd6 qd5 qd4 qd0 qd2 qd9 qbC qbD
attribute [local simp] qbh qa3 Ar Az qas qaP chg qaY runs qaM qaX PV.refs PV.Av IOp.okD IOp.Bg qbk Nat.testBit
attribute [local simp] gc Fr.keep qaH qaw qat PV.refs PV.Av qaJ gcH qaO Obj.refs PV.ren PV.Bp Obj.ren Heap.obj Fr.ren gh zzd
section
variable {E:Env}{k:KC (PV × CO)}{fr:Fr}{H:CW}{r:CG}
def qJH(v s u x a14:Int)
  (he1:∀rh,k (.exit 0) [(78,.d (.b false)),(16,.d (.i .u64 rh)),(15,.d (.i .u64 ((u*4294967296+x)/v))),(14,.d (.i .u64 a14)),(13,.d (.i .u64 x)),(11,.d (.i .u64 u)),(10,.d (.i .u64 (v%4294967296))),(9,.d (.i .u64 (v/4294967296))),(8,.d (.i .u64 s)),(2,.d (.i .u64 v))] []=r)
  (he2:∀rh,k (.exit 0) [(85,.d (.b true)),(78,.d (.b true)),(16,.d (.i .u64 rh)),(15,.d (.i .u64 ((u*4294967296+x)/v))),(14,.d (.i .u64 a14)),(13,.d (.i .u64 x)),(11,.d (.i .u64 u)),(10,.d (.i .u64 (v%4294967296))),(9,.d (.i .u64 (v/4294967296))),(8,.d (.i .u64 s)),(2,.d (.i .u64 v))] []=r)
  (q0 r0:Int) (hq:Dig v u x q0 r0) (hr:r0<4294967296)
  (h0:gc [2,8,9,10,11,13,14,15,16] 0 ⟨fr,H⟩=⟨[(16,.d (.i .u64 r0)),(15,.d (.i .u64 q0)),(14,.d (.i .u64 a14)),(13,.d (.i .u64 x)),(11,.d (.i .u64 u)),(10,.d (.i .u64 (v%4294967296))),(9,.d (.i .u64 (v/4294967296))),(8,.d (.i .u64 s)),(2,.d (.i .u64 v))],[]⟩) :
  kC E 0 fr H (.h (.loop [2,8,9,10,11,13,14,15,16] qkc,k))=r:=by
 refine qcq (λp:Int×Int=>⟨[(16,.d (.i .u64 p.2)),(15,.d (.i .u64 p.1)),(14,.d (.i .u64 a14)),(13,.d (.i .u64 x)),(11,.d (.i .u64 u)),(10,.d (.i .u64 (v%4294967296))),(9,.d (.i .u64 (v/4294967296))),(8,.d (.i .u64 s)),(2,.d (.i .u64 v))],[]⟩) (λp=>Dig v u x p.1 p.2/\p.2<4294967296) (λp=>(4294967296-p.2).toNat) ?_ (q0,r0) ⟨hq,hr⟩ h0;rintro B-⟨q,rh⟩ ⟨hd,hlt⟩ hx;simp only at hd hlt hx⊢;have hx':=λ(s':Int×Int)=>hx s';clear hx;have hq0:0<=q:=Int.le_trans (qer hd.v0 hd.u0 hd.u1 hd.x0 hd.x1).1 hd.q0;have hr0:=hd.r0;have hv0:=hd.v0;have hv1:=hd.v1;have hx0:=hd.x0;have hx1:=hd.x1;have hq1:=hd.q1;have more:(4294967296<=q\/4294967296*rh+x<q*(v%4294967296))->(4294967296<=rh+v/4294967296->q-1=(u*4294967296+x)/v)/\Dig v u x (q-1) (rh+v/4294967296)/\IntKind.u64.wrap (q-1)=q-1/\IntKind.u64.wrap (rh+v/4294967296)=rh+v/4294967296:=by
  intro hc;have hm:=qxm hd hc;have hp:0<=q-1:=Int.le_trans (qer hd.v0 hd.u0 hd.u1 hd.x0 hd.x1).1 hm.q0;exact⟨λh=>qxk hm h (by omega),hm,wrU hp (by omega),wrU (by omega) (by omega)⟩
 by_cases c1:4294967296<=q
 ·obtain⟨m1,m2,m3,m4⟩:=more (.inl c1);by_cases c2:4294967296<=rh+v/4294967296
  ·have:=m1 c2;simp[qkc,c1,m3,m4,c2];rw[this];exact he2 _
  ·simp[qkc,c1,m3,m4,c2];refine hx' (q-1,rh+v/4294967296) ⟨m2,by omega⟩ (by simp only;omega) _ _ ?_;simp
 ·obtain⟨d1,d2⟩:=qxn hd (by omega);have w1:IntKind.u64.wrap (q*(v%4294967296))=q*(v%4294967296):=wrU d1 d2;have w2:IntKind.u64.wrap (4294967296*rh)=4294967296*rh:=wrU (by omega) (by omega);have w3:IntKind.u64.wrap (4294967296*rh+x)=4294967296*rh+x:=wrU (by omega) (by omega);by_cases c3:4294967296*rh+x<q*(v%4294967296)
  ·obtain⟨m1,m2,m3,m4⟩:=more (.inr c3);by_cases c2:4294967296<=rh+v/4294967296
   ·have:=m1 c2;simp[qkc,c1,w1,w2,w3,c3,m3,m4,c2];rw[this];exact he2 _
   ·simp[qkc,c1,w1,w2,w3,c3,m3,m4,c2];refine hx' (q-1,rh+v/4294967296) ⟨m2,by omega⟩ (by simp only;omega) _ _ ?_;simp
  ·have:=qr6 hd (by omega);simp[qkc,c1,w1,w2,w3,c3];rw[this];exact he1 _
def qJI(v s u x a15:Int)
  (he1:∀rh,k (.exit 2) [(113,.d (.b false)),(18,.d (.i .u64 ((u*4294967296+x)/v))),(17,.d (.i .u64 u)),(16,.d (.i .u64 rh)),(15,.d (.i .u64 a15)),(14,.d (.i .u64 x)),(10,.d (.i .u64 (v%4294967296))),(9,.d (.i .u64 (v/4294967296))),(8,.d (.i .u64 s)),(2,.d (.i .u64 v))] []=r)
  (he2:∀rh,k (.exit 2) [(120,.d (.b true)),(113,.d (.b true)),(18,.d (.i .u64 ((u*4294967296+x)/v))),(17,.d (.i .u64 u)),(16,.d (.i .u64 rh)),(15,.d (.i .u64 a15)),(14,.d (.i .u64 x)),(10,.d (.i .u64 (v%4294967296))),(9,.d (.i .u64 (v/4294967296))),(8,.d (.i .u64 s)),(2,.d (.i .u64 v))] []=r)
  (q0 r0:Int) (hq:Dig v u x q0 r0) (hr:r0<4294967296)
  (h0:gc [2,8,9,10,14,15,16,17,18] 0 ⟨fr,H⟩=⟨[(18,.d (.i .u64 q0)),(17,.d (.i .u64 u)),(16,.d (.i .u64 r0)),(15,.d (.i .u64 a15)),(14,.d (.i .u64 x)),(10,.d (.i .u64 (v%4294967296))),(9,.d (.i .u64 (v/4294967296))),(8,.d (.i .u64 s)),(2,.d (.i .u64 v))],[]⟩) :
  kC E 0 fr H (.h (.loop [2,8,9,10,14,15,16,17,18] qkd,k))=r:=by
 refine qcq (λp:Int×Int=>⟨[(18,.d (.i .u64 p.1)),(17,.d (.i .u64 u)),(16,.d (.i .u64 p.2)),(15,.d (.i .u64 a15)),(14,.d (.i .u64 x)),(10,.d (.i .u64 (v%4294967296))),(9,.d (.i .u64 (v/4294967296))),(8,.d (.i .u64 s)),(2,.d (.i .u64 v))],[]⟩) (λp=>Dig v u x p.1 p.2/\p.2<4294967296) (λp=>(4294967296-p.2).toNat) ?_ (q0,r0) ⟨hq,hr⟩ h0;rintro B-⟨q,rh⟩ ⟨hd,hlt⟩ hx;simp only at hd hlt hx⊢;have hx':=λ(s':Int×Int)=>hx s';clear hx;have hq0:0<=q:=Int.le_trans (qer hd.v0 hd.u0 hd.u1 hd.x0 hd.x1).1 hd.q0;have hr0:=hd.r0;have hv0:=hd.v0;have hv1:=hd.v1;have hx0:=hd.x0;have hx1:=hd.x1;have hq1:=hd.q1;have more:(4294967296<=q\/4294967296*rh+x<q*(v%4294967296))->(4294967296<=rh+v/4294967296->q-1=(u*4294967296+x)/v)/\Dig v u x (q-1) (rh+v/4294967296)/\IntKind.u64.wrap (q-1)=q-1/\IntKind.u64.wrap (rh+v/4294967296)=rh+v/4294967296:=by
  intro hc;have hm:=qxm hd hc;have hp:0<=q-1:=Int.le_trans (qer hd.v0 hd.u0 hd.u1 hd.x0 hd.x1).1 hm.q0;exact⟨λh=>qxk hm h (by omega),hm,wrU hp (by omega),wrU (by omega) (by omega)⟩
 by_cases c1:4294967296<=q
 ·obtain⟨m1,m2,m3,m4⟩:=more (.inl c1);by_cases c2:4294967296<=rh+v/4294967296
  ·have:=m1 c2;simp[qkd,c1,m3,m4,c2];rw[this];exact he2 _
  ·simp[qkd,c1,m3,m4,c2];refine hx' (q-1,rh+v/4294967296) ⟨m2,by omega⟩ (by simp only;omega) _ _ ?_;simp
 ·obtain⟨d1,d2⟩:=qxn hd (by omega);have w1:IntKind.u64.wrap (q*(v%4294967296))=q*(v%4294967296):=wrU d1 d2;have w2:IntKind.u64.wrap (4294967296*rh)=4294967296*rh:=wrU (by omega) (by omega);have w3:IntKind.u64.wrap (4294967296*rh+x)=4294967296*rh+x:=wrU (by omega) (by omega);by_cases c3:4294967296*rh+x<q*(v%4294967296)
  ·obtain⟨m1,m2,m3,m4⟩:=more (.inr c3);by_cases c2:4294967296<=rh+v/4294967296
   ·have:=m1 c2;simp[qkd,c1,w1,w2,w3,c3,m3,m4,c2];rw[this];exact he2 _
   ·simp[qkd,c1,w1,w2,w3,c3,m3,m4,c2];refine hx' (q-1,rh+v/4294967296) ⟨m2,by omega⟩ (by simp only;omega) _ _ ?_;simp
  ·have:=qr6 hd (by omega);simp[qkd,c1,w1,w2,w3,c3];rw[this];exact he1 _
end
def qae{x y:Int}(h:¬x=y):(x==y)=false:=by simpa using h
def qRp(T:Tab)(hT:HT T)(hi lo y:Int)(h0:0<=hi)(l0:0<=lo)(l1:lo<18446744073709551616)(hy:hi<y)(y1:y<18446744073709551616):T.val 68 [.i .u64 hi,.i .u64 lo,.i .u64 y]=some (.t [.d (.i .u64 ((hi*18446744073709551616+lo)/y)),.d (.i .u64 ((hi*18446744073709551616+lo)%y))],false):=by
 obtain⟨r,hr⟩:∃r:CG,some (.t [.d (.i .u64 ((hi*18446744073709551616+lo)/y)),.d (.i .u64 ((hi*18446744073709551616+lo)%y))],false)=r:=⟨_,rfl⟩;rw[qab T (hT 68 F68 rfl) rfl,hr];have g1:¬y=0:=by omega
 have g1b:=qae g1;have g2:¬y<=hi:=by omega
 by_cases hz:hi=0
 ·subst hz;have e1:=qt1 lo y l0 l1 (by omega);have e2:=qBJ lo y l0 (by omega);rw[show (0:Int)*18446744073709551616+lo=lo by omega]at hr;generalize lo/y=Q at *
  generalize lo%y=Z at *
  simp[-qdn,-qdT,F68,Fr.Aa,g1,g1b,g2,↓qbm,↓qbn,↓qbg,↓qbz,↓qbp,↓qbJ,↓qbd,qbh,↓qbf,↓qbw,↓qbA,↓qbB,↓qbu,↓qbv,↓qbe,↓qby,↓qbj,↓qbR,↓qbQ,↓qdZ,↓qbH,↓qbE,↓qd8,↓qd7,↓qbl,↓qdV,↓qb2,↓qdW,↓qdY,↓qdX,↓qbG,↓qbF,↓qd1,↓qd3,↓qd6,↓qd5,↓qd4,↓qd0,↓qd2,↓qd9,↓qbC,↓qbD,qa3,Ar,Az,qas,qaP,chg,qaY,runs,qaM,qaX,PV.refs,PV.Av,IOp.okD,IOp.Bg,qbk,Nat.testBit,↓qaT e1,↓qaT e2];exact hr
 ·obtain⟨Y,rfl⟩:=Int.eq_ofNat_of_zero_le (show 0<=y by omega);have hl:=qtf (x:=Y) (by omega);obtain⟨t1,t2⟩:=qJ4 (y:=Y) (by omega) (by omega);obtain⟨s,es⟩:∃s,64-Go.bitLen Y=s:=⟨_,rfl⟩;have e73:=qRr T hT Y (by omega);have hpos:0<Go.bitLen Y:=by unfold Go.bitLen;rw[if_neg (by omega)];omega
  rw[es]at t1 t2 e73;have hs:s<=63:=by omega
  obtain⟨mm,hmm⟩:∃mm,Y*2^s=mm:=⟨_,rfl⟩;rw[hmm]at t1 t2;have hmc:((mm:Nat):Int)=(Y:Int)*2^s:=by rw[<-hmm];push_cast;rfl
  have t1':(9223372036854775808:Int)<=(Y:Int)*2^s:=by rw[<-hmc];omega
  have t2':(Y:Int)*2^s<18446744073709551616:=by rw[<-hmc];omega
  clear hmc hmm;obtain⟨A,L,c,eA,eL,ec,A0,A1,L0,L1,u1,eU,c0,c1⟩:=qPR (hi:=hi) (lo:=lo) (y:=(Y:Int)) hs h0 l0 l1 hy t2';have b1:=qu5 (Y:Int) s (by omega);have b2:=qu5 hi s (by omega);have b3:=qnL lo (64-s) (by omega);have b4:=qu5 lo s (by omega);rw[show (Y:Int)*2^s%18446744073709551616=(Y:Int)*2^s from Int.emod_eq_of_lt (by omega) t2']at b1;rw[eA]at b2;rw[eL]at b3;rw[ec]at b4;have b5:=orU A L s A0 (by omega) A1 L0 L1 (by omega);have b6:=qP9 64 (s:Int);rw[show (64-(s:Int))%18446744073709551616=((64-s:Nat):Int)by omega]at b6;have hq:(hi*18446744073709551616+lo)*2^s/((Y:Int)*2^s)=(hi*18446744073709551616+lo)/(Y:Int):=Int.mul_ediv_mul_of_pos_left _ _ (Int.pow_pos (by decide));have hm:(hi*18446744073709551616+lo)*2^s%((Y:Int)*2^s)=(hi*18446744073709551616+lo)%(Y:Int)*2^s:=by rw[Int.mul_comm _ (2^s),Int.mul_comm _ (2^s),Int.mul_emod_mul_of_pos _ _ (Int.pow_pos (by decide)),Int.mul_comm]
  have hm2:(hi*18446744073709551616+lo)*2^s%((Y:Int)*2^s)/2^s=(hi*18446744073709551616+lo)%(Y:Int):=by rw[hm,Int.mul_ediv_cancel _ (by have:(0:Int)<2^s:=Int.pow_pos (by decide);omega)]
  rw[<-hq,<-hm2]at hr;rw[eU]at hr;have b7:∀R:Int,qaL .shr (.d (.i .u64 R)) (.d (.i .u64 (s:Int)))=some (.i .u64 (R/2^s)):=λR=>qnL R s (by omega);generalize (2:Int)^s=P at *
  generalize hv:(Y:Int)*P=v at *
  obtain⟨u,hu⟩:∃u,u=A+L:=⟨_,rfl⟩;rw[<-hu]at b5 u1 hr;have hU:0<=u*18446744073709551616+c:=by omega
  have hu0:0<=u:=by omega
  obtain⟨a,ea⟩:∃a,a=c/4294967296:=⟨_,rfl⟩;obtain⟨b,eb⟩:∃b,b=c%4294967296:=⟨_,rfl⟩;have b8:=qik v;have b9:=qmu v (by omega) t2';have b10:=qik c;have b11:=qmu c c0 c1;rw[<-ea]at b10;rw[<-eb]at b11;obtain⟨Q,eQ⟩:∃Q,Q=(u*4294967296+a)/v:=⟨_,rfl⟩;obtain⟨w,ew⟩:∃w,w=u*4294967296+a-Q*v:=⟨_,rfl⟩;obtain⟨w0,w1,z1,z2⟩:=qFx (v:=v) (U:=u*18446744073709551616+c) (u:=u) (a:=a) (b:=b) (Q:=Q) (w:=w) t1' hU (by omega) u1 (by omega) (by omega) eQ ew;rw[<-z1,<-z2]at hr;obtain⟨q1,r1,d1,d2,d3,d4,d5⟩:=qxl (v:=v) (u:=u) (x:=a) t1' t2' hu0 u1 (by omega) (by omega);obtain⟨q2,r2,f1,f2,f3,f4,f5⟩:=qxl (v:=v) (u:=w) (x:=b) t1' t2' w0 w1 (by omega) (by omega);obtain⟨n1,n2,-,-⟩:=qer (v:=v) (u:=u) (x:=a) t1' hu0 u1 (by omega) (by omega);obtain⟨m1,m2,-,-⟩:=qer (v:=v) (u:=w) (x:=b) t1' w0 w1 (by omega) (by omega)
  obtain⟨Q2,eQ2⟩:∃Q2,Q2=(w*4294967296+b)/v:=⟨_,rfl⟩;rw[<-eQ]at n1 n2;rw[<-eQ2]at m1 m2 hr z1 z2;have k1:IntKind.u64.wrap (IntKind.u64.wrap (IntKind.u64.wrap (u*4294967296)+a)-IntKind.u64.wrap (Q*v))=w:=by
   simp only[wU];generalize Q*v=m at *
   omega
  have k2:IntKind.u64.wrap (IntKind.u64.wrap (Q*4294967296)+Q2)=Q*4294967296+Q2:=by simp only[wU];omega
  have rm0:0<=w*4294967296+b-Q2*v/\w*4294967296+b-Q2*v<v:=by rw[z2];exact⟨Int.emod_nonneg _ (by omega),Int.emod_lt_of_pos _ (by omega)⟩
  have k3:IntKind.u64.wrap (IntKind.u64.wrap (IntKind.u64.wrap (w*4294967296)+b)-IntKind.u64.wrap (Q2*v))=w*4294967296+b-Q2*v:=by
   simp only[wU];generalize Q2*v=m at *
   omega
  have k4:=b7 (w*4294967296+b-Q2*v);have ws:IntKind.u64.wrap (s:Int)=(s:Int):=wrU (by omega) (by omega);generalize w*4294967296+b-Q2*v=Z at *
  generalize Z/P=Z2 at *
  generalize Q*4294967296+Q2=Qt at *
  have lp0:=λk he1 he2 fr H=>@qJH T.env k fr H r v (s:Int) u a b he1 he2 q1 r1 d1 d2;have lp1:=λk he1 he2 fr H=>@qJI T.env k fr H r v (s:Int) w b Q he1 he2 q2 r2 f1 f2;rw[<-eQ]at lp0;rw[<-eQ2]at lp1;simp[-qdn,-qdT,F68,Fr.Aa,g1,g1b,g2,hz,qae hz,e73,↓qay,↓qaR,ws,↓qaT b1,↓qaT b2,↓qaT b3,↓qaT b4,↓qaT b5,↓qaT b6,↓qaT b8,↓qaT b9,↓qaT b10,↓qaT b11,↓qaT d3,d4,d5];refine lp0 _ (λrh=>?_) (λrh=>?_) _ _ (by simp)
  ·simp[-qdn,k1,↓qaT f3,f4,f5];refine lp1 _ (λrh=>?_) (λrh=>?_) _ _ (by simp)
   ·simp[k2,k3,↓qaT k4];exact hr
   ·simp[k2,k3,↓qaT k4];exact hr
  ·simp[-qdn,k1,↓qaT f3,f4,f5];refine lp1 _ (λrh=>?_) (λrh=>?_) _ _ (by simp)
   ·simp[k2,k3,↓qaT k4];exact hr
   ·simp[k2,k3,↓qaT k4];exact hr
def qxO{A B z:Int}{r:CG}(h:some (PV.d (Sz z).dv,false)=r)(h1:A=z/18446744073709551616)(h2:B=z%18446744073709551616):some (PV.d (.a [.i .u64 A,.i .u64 B]),false)=r:=by rw[sz0 h1 h2];exact h
def qRh(T:Tab)(hT:HT T)(z:Int)(h0 : -170141183460469231731687303715884105728<=z)(h1:z<170141183460469231731687303715884105728):T.val 55 [(Wd z).dv]=some (.d (Sz (aI z)).dv,false):=by
 obtain⟨a,ea,a1,a2⟩:=qeG z;obtain⟨b,eb,b1,b2⟩:=qeG (ngW z);obtain⟨r,hr⟩:∃r:CG,some (.d (Sz (aI z)).dv,false)=r:=⟨_,rfl⟩;have e49:=qvu T hT z h0 h1;rw[ea,eb]at e49;rw[qab T (hT 55 F55 rfl) rfl,ea,hr];by_cases h:z<0
 ·have g:a.Hi<0:=by omega
  simp[F55,Fr.Aa,g,e49,↓qay,↓qaR,↓qak,↓qam,↓qal,putAt,mkA,qac,qai,qan,qaj];refine qxO hr ?_ ?_
  ·rw[wU,qhQ h,b1];unfold ngW;split<;>omega
  ·rw[qhQ h,b2];unfold ngW;split<;>omega
 ·have g:¬a.Hi<0:=by omega
  simp[F55,Fr.Aa,g,↓qay,↓qaR,↓qak,↓qam,↓qal,putAt,mkA,qac,qai,qan,qaj];refine qxO hr ?_ ?_
  ·rw[wU,qov h,a1];omega
  ·rw[qov h,a2]
def qRi(T:Tab)(hT:HT T)(s n:Int)(h0:0<=s)(h1:s<340282366920938463463374607431768211456)(n0:0<n)(n1:n<18446744073709551616):T.val 56 [(Sz s).dv,.i .u64 n]=some (.t [.d (Sz (s/n)).dv,.d (.i .u64 (s%n))],false):=by
 obtain⟨a,ea,a1,a2⟩:=qnO s;obtain⟨r,hr⟩:∃r:CG,some (.t [.d (Sz (s/n)).dv,.d (.i .u64 (s%n))],false)=r:=⟨_,rfl⟩;obtain⟨d1,d2,d3⟩:=qFy (s:=s) (n:=n) h0 n0;rw[<-a1,<-a2]at d2 d3;rw[<-a1]at d1;have e1:=qBJ a.h n (by omega) n0;have e2:=qt1 a.h n (by omega) (by omega) n0;have r0:=Int.emod_nonneg a.h (b:=n) (by omega);have r1:=Int.emod_lt_of_pos a.h n0;have e3:=qRp T hT (a.h%n) a.l n r0 (by omega) (by omega) r1 n1;rw[d2,d3]at e3;have e4:DV.a [.i .u64 (a.h/n),.i .u64 (s/n%18446744073709551616)]=(Sz (s/n)).dv:=sz0 d1 rfl;generalize s/n%18446744073709551616=q at *
 generalize s%n=m at *
 generalize Sz (s/n)=z at *
 generalize a.h%n=y at *
 generalize a.h/n=x at *
 rw[qab T (hT 56 F56 rfl) rfl,ea,hr];simp[-qdn,-qdT,F56,Fr.Aa,↓qaT e1,↓qaT e2,e3,↓qak,↓qam,↓qal,putAt,mkA,qac,qai,qan,qaj,e4];exact hr
def qRj(T:Tab)(hT:HT T)(s:Int)(h0:0<=s)(h1:s+1<340282366920938463463374607431768211456):∃b,T.val 57 [(Sz s).dv,.i .u64 1,.i .u64 1]=some (.t [.d (Sz (s+1)).dv,.d (.b b)],false):=by
 obtain⟨a,ea,a1,a2⟩:=qnO s;have e1:=qvt T hT a.l 1 (by omega) (by omega) (by omega) (by omega);rw[Int.mul_one,show a.l/18446744073709551616=0 by omega,show a.l%18446744073709551616=a.l by omega]at e1;have e2:=qvt T hT a.h 1 (by omega) (by omega) (by omega) (by omega);rw[Int.mul_one,show a.h/18446744073709551616=0 by omega,show a.h%18446744073709551616=a.h by omega]at e2;have p1:=pr0 (x:=a.l) (y:=1) (c:=0) (by omega) (by omega) (by omega) (by omega);obtain⟨c,hc⟩:∃c,(a.l+1+0)/18446744073709551616=c:=⟨_,rfl⟩;obtain⟨m,hm⟩:∃m,(a.l+1+0)%18446744073709551616=m:=⟨_,rfl⟩;rw[hc,hm]at p1;have wc:IntKind.u64.wrap c=c:=wrU (by omega) (by omega);have p2:=pr0 (x:=a.h) (y:=c) (c:=0) (by omega) (by omega) (by omega) (by omega)
 obtain⟨c2,hc2⟩:∃c2,(a.h+c+0)/18446744073709551616=c2:=⟨_,rfl⟩;obtain⟨m2,hm2⟩:∃m2,(a.h+c+0)%18446744073709551616=m2:=⟨_,rfl⟩;rw[hc2,hm2]at p2;have e4:DV.a [.i .u64 m2,.i .u64 m]=(Sz (s+1)).dv:=sz0 (by omega) (by omega);have hc3:c2=0:=by omega
 subst hc3;refine⟨true,?_⟩;obtain⟨r,hr⟩:∃r:CG,some (.t [.d (Sz (s+1)).dv,.d (.b true)],false)=r:=⟨_,rfl⟩;rw[qab T (hT 57 F57 rfl) rfl,ea,hr];generalize Sz (s+1)=z at *
 simp[F57,Fr.Aa,e1,e2,↓qmy,p1,p2,wc,↓qak,↓qam,↓qal,putAt,mkA,qac,qai,qan,qaj,e4];exact hr
def qvw(T:Tab)(hT:HT T)(s:Int)(m:CO)(h0:0<=s)(h1:if m=true then s<=170141183460469231731687303715884105728 else s<170141183460469231731687303715884105728):T.val 58 [(Sz s).dv,.b m]=some (.t [.d (Wd (if m=true then -s else s)).dv,.d (I 0)],false):=by
 obtain⟨a,ea,a1,a2⟩:=qnO s;cases m with
 |false=>
  simp only[zzg,if_false]at h1⊢;have g1:¬9223372036854775808<a.h:=by omega
  have g2:¬a.h=9223372036854775808:=by omega
  have g3:(a.h==9223372036854775808)=false:=by simpa using g2
  have w:IntKind.i64.wrap a.h=a.h:=wrI (by omega) (by omega);have e4:DV.a [I a.h,.i .u64 a.l]=(Wd s).dv:=wd0 a1 a2;obtain⟨r,hr⟩:∃r:CG,some (.t [.d (Wd s).dv,.d (I 0)],false)=r:=⟨_,rfl⟩;rw[qab T (hT 58 F58 rfl) rfl,ea,hr];generalize Wd s=z at *
  simp[F58,Fr.Aa,g1,g2,g3,↓qay,↓qaR,w,↓qak,↓qam,↓qal,putAt,mkA,qac,qai,qan,qaj,e4];exact hr
 |true=>
  simp only[if_true]at h1⊢;have g1:¬9223372036854775808<a.h:=by omega
  obtain⟨z,hz⟩:∃z,z=if s=170141183460469231731687303715884105728 then -170141183460469231731687303715884105728 else s:=⟨_,rfl⟩;have z0 : -170141183460469231731687303715884105728<=z/\z<170141183460469231731687303715884105728:=by rw[hz];split<;>omega
  have zn:ngW z=-s:=by
   unfold ngW;rw[hz];by_cases c:s=170141183460469231731687303715884105728
   ·rw[if_pos c,if_pos rfl];omega
   ·rw[if_neg c,if_neg (by omega)]
  have e49:=qvu T hT z z0.1 z0.2;rw[zn]at e49;obtain⟨w,hw⟩:∃w,IntKind.i64.wrap a.h=w:=⟨_,rfl⟩;have hw2:=hw;rw[wI]at hw2;have e4:DV.a [I w,.i .u64 a.l]=(Wd z).dv:=by
   by_cases c:s=170141183460469231731687303715884105728
   ·rw[if_pos c]at hz;exact wd0 (by omega) (by omega)
   ·rw[if_neg c]at hz;exact wd0 (by omega) (by omega)
  obtain⟨r,hr⟩:∃r:CG,some (.t [.d (Wd (-s)).dv,.d (I 0)],false)=r:=⟨_,rfl⟩;rw[qab T (hT 58 F58 rfl) rfl,ea,hr];by_cases c:a.h=9223372036854775808
  ·have g2:(a.h==9223372036854775808)=true:=by simpa using c
   have g3:a.l=0:=by omega
   have g4:¬0<a.l:=by omega
   generalize Wd (-s)=z1 at *
   generalize Wd z=z2 at *
   simp[F58,Fr.Aa,g1,g2,g4,↓qay,↓qaR,hw,↓qak,↓qam,↓qal,putAt,mkA,qac,qai,qan,qaj,e4,e49];exact hr
  ·have g2:(a.h==9223372036854775808)=false:=by simpa using c
   generalize Wd (-s)=z1 at *
   generalize Wd z=z2 at *
   simp[F58,Fr.Aa,g1,g2,↓qay,↓qaR,hw,↓qak,↓qam,↓qal,putAt,mkA,qac,qai,qan,qaj,e4,e49];exact hr
def qxA(b:ASz)(h:¬(b.h=0/\b.l=0)):eqA [1,1] (.d b.dv) (.d (.a [.i .u64 0,.i .u64 0]))=some false:=by
 have:eqA [1,1] (.d b.dv) (.d (.a [.i .u64 0,.i .u64 0]))=some (b.h==0&&(b.l==0&&true)):=by simp[eqA,eqL,eqK,ASz.dv]
 rw[this];simp only[Bool.and_true];congr 1;simpa using h
def qQ3(T:Tab)(hT:HT T)(z n:Int)(h0 : -170141183460469231731687303715884105728<=z)(h1:z<170141183460469231731687303715884105728)(n0:0<n)(n1:n<9223372036854775808):T.val 43 [(Wd z).dv,I n]=some (.t [.d (Wd (z/n)).dv,.d (I (z%n)),.d (I 0)],false):=by
 obtain⟨a,ea,a1,a2⟩:=qeG z;have s0:0<=aI z/\aI z<=170141183460469231731687303715884105728:=by unfold aI;split<;>omega
 have e55:=qRh T hT z h0 h1;have e56:=qRi T hT (aI z) n s0.1 (by omega) n0 (by omega);rw[ea]at e55;have wn:IntKind.u64.wrap n=n:=wrU (by omega) (by omega);have gn:¬n<1:=by omega
 have q0:0<=aI z/n:=Int.ediv_nonneg s0.1 (by omega);have q1:aI z/n<=aI z:=Int.ediv_le_self n s0.1;have m0:=Int.emod_nonneg (aI z) (b:=n) (by omega);have m1:=Int.emod_lt_of_pos (aI z) n0;obtain⟨r,hr⟩:∃r:CG,some (.t [.d (Wd (z/n)).dv,.d (I (z%n)),.d (I 0)],false)=r:=⟨_,rfl⟩;rw[qab T (hT 43 F43 rfl) rfl,ea,hr];by_cases hz:z<0
 ·have g:a.Hi<0:=by omega
  by_cases hm:aI z%n=0
  ·have hp:0<aI z/n:=by
    have:=qhQ hz;have e:=Int.mul_ediv_add_emod (aI z) n;by_cases c:aI z/n=0
    ·rw[c]at e;omega
    ·omega
   obtain⟨d1,d2⟩:=qKE n0 hm;rw[qhQ hz,Int.neg_neg]at d1 d2;rw[d1,d2]at hr;rw[<-qhQ hz]at hr;have e58:=qvw T hT (aI z/n) true q0 (by rw[if_pos rfl];omega);rw[if_pos rfl]at e58;obtain⟨b,eb,b1,b2⟩:=qnO (aI z/n);rw[eb]at e58 e56;have ez:=qxA b (by omega);rw[hm]at e56;generalize Sz (aI z)=s1 at *
   generalize Wd (-(aI z/n))=s2 at *
   have w0:IntKind.i64.wrap 0=0:=rfl;simp[F43,Fr.Aa,e55,e56,gn,g,wn,↓qay,↓qaR,↓qak,↓qam,↓qal,putAt,mkA,qac,qai,qan,qaj,ez,e58,w0];exact hr
  ·obtain⟨d1,d2⟩:=qKF n0 hm;rw[qhQ hz,Int.neg_neg]at d1 d2;rw[<-qhQ hz]at d1 d2;rw[d1,d2]at hr;obtain⟨bb,e57⟩:=qRj T hT (aI z/n) q0 (by omega);have e58:=qvw T hT (aI z/n+1) true (by omega) (by
    rw[if_pos rfl];by_cases c:n=1
    ·subst c;exact absurd (Int.emod_one _) hm
    ·have:aI z/n<=aI z/2:=qyu s0.1 (by omega);omega)
   rw[if_pos rfl]at e58;obtain⟨b,eb,b1,b2⟩:=qnO (aI z/n+1);rw[eb]at e58 e57;have ez:=qxA b (by omega);have gm:0<aI z%n:=by omega
   have w1:IntKind.u64.wrap (n-aI z%n)=n-aI z%n:=wrU (by omega) (by omega);have w2:IntKind.i64.wrap (n-aI z%n)=n-aI z%n:=wrI (by omega) (by omega);generalize Sz (aI z)=s1 at *
   generalize Sz (aI z/n)=s3 at *
   generalize Wd (-(aI z/n+1))=s2 at *
   generalize aI z%n=m at *
   simp[F43,Fr.Aa,e55,e56,e57,gn,g,gm,wn,w1,w2,↓qay,↓qaR,↓qak,↓qam,↓qal,putAt,mkA,qac,qai,qan,qaj,ez,e58];exact hr
 ·have g:¬a.Hi<0:=by omega
  rw[qov hz]at *
  have e58:=qvw T hT (z/n) false q0 (by simp only[zzg,if_false];omega);simp only[zzg,if_false]at e58;have w2:IntKind.i64.wrap (z%n)=z%n:=wrI (by omega) (by omega);generalize Sz z=s1 at *
  generalize Sz (z/n)=s3 at *
  generalize Wd (z/n)=s2 at *
  generalize z%n=m at *
  simp[F43,Fr.Aa,e55,e56,gn,g,wn,w2,↓qay,↓qaR,↓qak,↓qam,↓qal,putAt,mkA,qac,qai,qan,qaj,e58];exact hr
def qcy(q ρ n:Int):Int:=if n-ρ<ρ then 1 else if ρ<n-ρ then 0 else q%2
def qRc(T:Tab)(hT:HT T)(z ρ n:Int)(r0:0<=ρ)(r1:ρ<n)(n1:n<9223372036854775808):T.val 45 [(Wd z).dv,I ρ,I n,I 6]=some (.d (I (qcy z ρ n)),false):=by
 obtain⟨a,ea,a1,a2⟩:=qeG z;obtain⟨r,hr⟩:∃r:CG,some (.d (I (qcy z ρ n)),false)=r:=⟨_,rfl⟩;rw[qab T (hT 45 F45 rfl) rfl,ea,hr];have w:IntKind.i64.wrap (n-ρ)=n-ρ:=wrI (by omega) (by omega);by_cases c1:n-ρ<ρ
 ·rw[qcy,if_pos c1]at hr;simp[F45,Fr.Aa,w,c1];exact hr
 ·by_cases c2:ρ<n-ρ
  ·rw[qcy,if_neg c1,if_pos c2]at hr;simp[F45,Fr.Aa,w,c1,c2];exact hr
  ·rw[qcy,if_neg c1,if_neg c2]at hr;have e1:=qEk a.Lo (by omega) (by omega);have w2:IntKind.i64.wrap (a.Lo%2)=a.Lo%2:=wrI (by omega) (by omega);rw[show z%2=a.Lo%2 by omega]at hr;generalize a.Lo%2=y at *
   simp[F45,Fr.Aa,w,c1,c2,↓qaT e1,↓qay,↓qaR,w2];exact hr
def qQK(T:Tab)(hT:HT T):T.val 35 [I 6]=some (.d (.b true),false):=by rw[qab T (hT 35 F35 rfl) rfl];simp[F35,Fr.Aa]
def qe1(z n:Int):Int:=z/n+qcy (z/n) (z%n) n
def qk0(x:Int):PV×CO:=if -9223372036854775808<=x/\x<9223372036854775808 then (.t [.d (I x),.d (I 0)],false)else (.t [.d (I 0),.d (I 6)],false)
def qvq(T:Tab)(hT:HT T)(z n:Int)(h0 : -170141183460469231731687303715884105728<=z)(h1:z<170141183460469231731687303715884105728)(n0:0<n)(n1:n<9223372036854775808):T.val 36 [(Wd z).dv,I n,I 6]=some (qk0 (qe1 z n)):=by
 have e43:=qQ3 T hT z n h0 h1 n0 n1;have m0:=Int.emod_nonneg z (b:=n) (by omega);have m1:=Int.emod_lt_of_pos z n0;have e45:=qRc T hT (z/n) (z%n) n m0 m1 n1;have e35:=qQK T hT;have hh:0<=qcy (z/n) (z%n) n/\qcy (z/n) (z%n) n<=1:=by unfold qcy;split<;>(try split)<;>omega
 have e44:=qir T hT (qcy (z/n) (z%n) n) (by omega) (by omega);have gn:¬n<1:=by omega
 have em:=Int.mul_ediv_add_emod z n;have b1 : -170141183460469231731687303715884105728<=z/n:=Int.le_ediv_of_mul_le n0 (by omega);have b2:z/n<170141183460469231731687303715884105728:=Int.ediv_lt_of_lt_mul n0 (by omega);have b3:0<z%n->z/n+1<170141183460469231731687303715884105728:=by
  intro hp;by_cases c:n=1
  ·subst c;simp at hp
  ·by_cases hz:0<=z
   ·have:z/n<=z/2:=qyu hz (by omega);omega
   ·have:z/n<0:=Int.ediv_neg_of_neg_of_pos (by omega) n0;omega
 obtain⟨r,hr⟩:∃r,some (qk0 (qe1 z n))=r:=⟨_,rfl⟩;rw[qab T (hT 36 F36 rfl) rfl,hr];by_cases hm:0<z%n
 ·have e31:=qCQ T hT (z/n) (qcy (z/n) (z%n) n) b1 b2 (by omega) (by omega);rw[qdA,if_pos ⟨by omega,by have:=b3 hm;omega⟩]at e31;have e46:=qvs T hT (z/n+qcy (z/n) (z%n) n) (by omega) (by have:=b3 hm;omega);obtain⟨a,ea⟩:∃a,Wd z=a:=⟨_,rfl⟩;obtain⟨b,eb⟩:∃a,Wd (z/n)=a:=⟨_,rfl⟩;obtain⟨c,ec⟩:∃a,Wd (z/n+qcy (z/n) (z%n) n)=a:=⟨_,rfl⟩;obtain⟨d,ed⟩:∃a,Wd (qcy (z/n) (z%n) n)=a:=⟨_,rfl⟩;rw[ea]at e43⊢;rw[eb]at e43 e45 e31;rw[ec]at e31 e46;rw[ed]at e44 e31;rw[qk0,qe1]at hr;generalize z/n+qcy (z/n) (z%n) n=v at *
  rw[qjg]at e46;by_cases hv : -9223372036854775808<=v/\v<9223372036854775808
  ·rw[if_pos hv]at hr e46;generalize qcy (z/n) (z%n) n=k at *
   generalize z%n=m at *
   simp[F36,Fr.Aa,gn,e35,e43,hm,e45,e44,e31,e46];exact hr
  ·rw[if_neg hv]at hr e46;generalize qcy (z/n) (z%n) n=k at *
   generalize z%n=m at *
   simp[F36,Fr.Aa,gn,e35,e43,hm,e45,e44,e31,e46];exact hr
 ·have hm0:z%n=0:=by omega
  have hh0:qcy (z/n) (z%n) n=0:=by rw[hm0,qcy,if_neg (by omega),if_pos (by omega)]
  have e46:=qvs T hT (z/n) b1 b2;rw[qk0,qe1,hh0,Int.add_zero]at hr;rw[hm0]at e43;obtain⟨a,ea⟩:∃a,Wd z=a:=⟨_,rfl⟩;obtain⟨b,eb⟩:∃a,Wd (z/n)=a:=⟨_,rfl⟩;rw[ea]at e43⊢;rw[eb]at e43 e46;rw[qjg]at e46;by_cases hv : -9223372036854775808<=z/n/\z/n<9223372036854775808
  ·rw[if_pos hv]at hr e46;generalize z/n=v at *
   simp[F36,Fr.Aa,gn,e35,e43,e46];exact hr
  ·rw[if_neg hv]at hr e46;generalize z/n=v at *
   simp[F36,Fr.Aa,gn,e35,e43,e46];exact hr
def qbX(x:Int):Int×Int:=if -9223372036854775808<=x/\x<9223372036854775808 then (x,0)else (0,6)
def two(p:Int×Int):PV×CO:=(.t [.d (I p.1),.d (I p.2)],false)
def qtE(x:Int):qk0 x=two (qbX x):=by unfold qk0 qbX;split<;>rfl
def qqG(T:Tab)(hT:HT T)(z:Int)(h0 : -170141183460469231731687303715884105728<=z)(h1:z<170141183460469231731687303715884105728):T.val 997 [(Wd z).dv,I 0]=some (two (qbX z)):=by
 have e:=qvs T hT z h0 h1;rw[qjg]at e;obtain⟨a,ea⟩:∃a,Wd z=a:=⟨_,rfl⟩;rw[ea]at e⊢;rw[qab T (hT 997 qj3 rfl) rfl];by_cases h : -9223372036854775808<=z/\z<9223372036854775808
 ·rw[if_pos h]at e;rw[qbX,if_pos h];simp[qj3,Fr.Aa,e,two]
 ·rw[if_neg h]at e;rw[qbX,if_neg h];simp[qj3,Fr.Aa,e,two]
def qR2(T:Tab)(hT:HT T)(b:CO):T.val 996 [.b b]=some (.d (I (if b=true then 1 else 0)),false):=by
 rw[qab T (hT 996 qj2 rfl) rfl];cases b with
 |true=>simp[qj2,Fr.Aa]
 |false=>simp[qj2,Fr.Aa]
def okV(v:Ah):CO:=
 if v.Typ=1 then true
 else if v.Typ=2 then decide (-1000000000000<=v.N)&&decide (v.N<=1000000000000)
 else if v.Typ=3 then decide (-1000000000<=v.N)&&decide (v.N<=1000000000)
 else if v.Typ=4 then decide (0<=v.N)&&decide (v.N<=73048)
 else if v.Typ=5 then decide (v.N=0)||decide (v.N=1)
 else false
def qvx(T:Tab)(hT:HT T)(v:Ah):T.val 966 [v.dv]=some (.d (.b (okV v)),false):=by
 rw[qab T (hT 966 qc5 rfl) rfl];unfold okV;by_cases h1:v.Typ=1
 ·simp[qc5,Fr.Aa,h1]
 ·have g1:=qae h1;by_cases h2:v.Typ=2
  ·by_cases c : -1000000000000<=v.N
   ·simp[qc5,Fr.Aa,h2,c]
   ·simp[qc5,Fr.Aa,h2,c]
  ·have g2:=qae h2;by_cases h3:v.Typ=3
   ·by_cases c : -1000000000<=v.N
    ·simp[qc5,Fr.Aa,h3,c]
    ·simp[qc5,Fr.Aa,h3,c]
   ·have g3:=qae h3;by_cases h4:v.Typ=4
    ·by_cases c:0<=v.N
     ·simp[qc5,Fr.Aa,h4,c]
     ·simp[qc5,Fr.Aa,h4,c]
    ·have g4:=qae h4;by_cases h5:v.Typ=5
     ·by_cases c:v.N=0
      ·simp[qc5,Fr.Aa,h5,c]
      ·have g:=qae c;by_cases d:v.N=1
       ·simp[qc5,Fr.Aa,h5,c,g,d]
       ·have g':=qae d;simp[qc5,Fr.Aa,h5,c,g,d,g']
     ·have g5:=qae h5;simp[qc5,Fr.Aa,h1,h2,h3,h4,h5,g1,g2,g3,g4,g5]
def Ah.i(v:Ah):Prop:=-9223372036854775808<=v.N/\v.N<9223372036854775808
def qKx{x y:Int}(x0 : -9223372036854775808<=x)(x1:x<9223372036854775808)(y0 : -9223372036854775808<=y)(y1:y<9223372036854775808) : -170141183460469231731687303715884105728<=x*y/\x*y<170141183460469231731687303715884105728:=by
 have ha:0<=aI x/\aI x<=9223372036854775808:=by unfold aI;split<;>omega
 have hb:0<=aI y/\aI y<=9223372036854775808:=by unfold aI;split<;>omega
 have p0:0<=aI x*aI y:=Int.mul_nonneg ha.1 hb.1;have p1:aI x*aI y<=9223372036854775808*9223372036854775808:=qpU ha.2 hb.2 hb.1 (by omega);rw[qAC x y];generalize aI x*aI y=P at *
 split<;>omega
def qnl(a b:Ah):Int×Int:=if a.Typ=b.Typ\/a.Typ=1\/b.Typ=1 then qbX (a.N*b.N)else qbX (qe1 (a.N*b.N) 1000000)
def qR3(T:Tab)(hT:HT T)(a b:Ah)(ha:a.i)(hb:b.i):T.val 998 [a.dv,b.dv]=some (two (qnl a b)):=by
 have e37:=qQL T hT a.N b.N ha.1 ha.2 hb.1 hb.2;obtain⟨m0,m1⟩:=qKx ha.1 ha.2 hb.1 hb.2;unfold qnl;generalize a.N*b.N=P at *
 have e36:=qvq T hT P 1000000 m0 m1 (by omega) (by omega);have e997:=qqG T hT P m0 m1;rw[qtE]at e36;generalize Wd P=w at *
 generalize qbX (qe1 P 1000000)=p at *
 generalize qbX P=p2 at *
 unfold two at *
 rw[qab T (hT 998 qhJ rfl) rfl];by_cases h1:a.Typ=b.Typ
 ·rw[if_pos (.inl h1)];simp[qhJ,Fr.Aa,bne,e37,e36,e997,h1]
 ·have g1:=qae h1;by_cases h2:a.Typ=1
  ·rw[if_pos (.inr (.inl h2))];rw[h2]at h1 g1;simp[qhJ,Fr.Aa,bne,e37,e36,e997,h1,h2,g1]
  ·have g2:=qae h2;by_cases h3:b.Typ=1
   ·rw[if_pos (.inr (.inr h3))];simp[qhJ,Fr.Aa,bne,e37,e36,e997,h2,h3,g2]
   ·have g3:=qae h3;rw[if_neg (λh=>by rcases h with h|h|h<;>first|exact h1 h|exact h2 h|exact h3 h)];simp[qhJ,Fr.Aa,bne,e37,e36,e997,h1,h2,h3,g1,g2,g3]
def qjA(a b:Ah):Int×Int:=
 if a.Typ=b.Typ then (if a.N=-9223372036854775808/\b.N=-1 then (0,6)else (IntKind.i64.wrap (a.N.tdiv b.N),0))
 else if b.N=-9223372036854775808 then (0,0)
 else if b.N<0 then qbX (qe1 (IntKind.i64.wrap (-a.N)) (-b.N))else qbX (qe1 a.N b.N)
def qR4(T:Tab)(hT:HT T)(a b:Ah)(ha:a.i)(hb:b.i)(h0:b.N≠0):T.val 999 [a.dv,b.dv]=some (two (qjA a b)):=by
 unfold Ah.i at ha hb;unfold qjA;rw[qab T (hT 999 qeH rfl) rfl];by_cases h1:a.Typ=b.Typ
 ·rw[if_pos h1];by_cases h2:a.N=-9223372036854775808
  ·by_cases h3:b.N=-1
   ·rw[if_pos ⟨h2,h3⟩];simp[qeH,Fr.Aa,h1,h2,h3,two]
   ·have g3:=qae h3;rw[if_neg (λh=>h3 h.2)];simp[qeH,Fr.Aa,h1,h2,h3,g3,h0,two]
  ·have g2:=qae h2;rw[if_neg (λh=>h2 h.1)];simp[qeH,Fr.Aa,h1,h2,g2,h0,two]
 ·have g1:=qae h1;rw[if_neg h1];by_cases h2:b.N=-9223372036854775808
  ·rw[if_pos h2];simp[qeH,Fr.Aa,h1,g1,h2,two]
  ·have g2:=qae h2;rw[if_neg h2];by_cases h3:b.N<0
   ·rw[if_pos h3];obtain⟨m,hm⟩:∃m,IntKind.i64.wrap (-a.N)=m:=⟨_,rfl⟩;have hm2:=hm;rw[wI]at hm2;have wb:IntKind.i64.wrap (-b.N)=-b.N:=wrI (by omega) (by omega);have e44:=qir T hT m (by omega) (by omega);have e36:=qvq T hT m (-b.N) (by omega) (by omega) (by omega) (by omega);rw[qtE]at e36;rw[hm];generalize Wd m=w at *
    generalize qbX (qe1 m (-b.N))=p at *
    unfold two at *
    simp[qeH,Fr.Aa,h1,g1,h2,g2,h3,hm,wb,e44,e36]
   ·rw[if_neg h3];have e44:=qir T hT a.N ha.1 ha.2;have e36:=qvq T hT a.N b.N (by omega) (by omega) (by omega) (by omega);rw[qtE]at e36;generalize Wd a.N=w at *
    generalize qbX (qe1 a.N b.N)=p at *
    unfold two at *
    simp[qeH,Fr.Aa,h1,g1,h2,g2,h3,e44,e36]
def qku(op:Int)(a b:Ah):Int×Int:=
 if op=5 then qbX (a.N+b.N)else if op=6 then qbX (a.N-b.N)else if op=7 then qnl a b else if b.N=0 then (0,7)else qjA a b
def qQa{x y:Int}(x0 : -9223372036854775808<=x)(x1:x<9223372036854775808)(y0 : -9223372036854775808<=y)(y1:y<9223372036854775808):qdA (x+y)=(.t [.d (Wd (x+y)).dv,.d (I 0)],false)/\qdA (x-y)=(.t [.d (Wd (x-y)).dv,.d (I 0)],false):=by constructor<;>rw[qdA,if_pos (by omega)]
def qR0(T:Tab)(hT:HT T)(op:Int)(a b:Ah)(t:CO)(ha:a.i)(hb:b.i)(h9:op≠9):T.val 984 [I op,.l (K1 2) [a.dv,b.dv] t]=some (two (qku op a b)):=by
 have g9:=qae h9;unfold Ah.i at *
 obtain⟨s1,s2⟩:=qQa ha.1 ha.2 hb.1 hb.2;have e31:=qCQ T hT a.N b.N (by omega) (by omega) (by omega) (by omega);have e42:=qCW T hT a.N b.N (by omega) (by omega) (by omega) (by omega);rw[s1]at e31;rw[s2]at e42;have ea:=qir T hT a.N ha.1 ha.2;have eb:=qir T hT b.N hb.1 hb.2;have e1:=qqG T hT (a.N+b.N) (by omega) (by omega);have e2:=qqG T hT (a.N-b.N) (by omega) (by omega);unfold qku;rw[qab T (hT 984 qeo rfl) rfl];by_cases h5:op=5
 ·subst h5;rw[if_pos rfl];generalize Wd (a.N+b.N)=w at *
  generalize Wd a.N=wa at *
  generalize Wd b.N=wb at *
  generalize qbX (a.N+b.N)=p at *
  unfold two at *
  simp[qeo,Fr.Aa,ea,eb,e31,e1]
 ·have g5:=qae h5;rw[if_neg h5];by_cases h6:op=6
  ·subst h6;rw[if_pos rfl];generalize Wd (a.N-b.N)=w at *
   generalize Wd a.N=wa at *
   generalize Wd b.N=wb at *
   generalize qbX (a.N-b.N)=p at *
   unfold two at *
   simp[qeo,Fr.Aa,ea,eb,e42,e2]
  ·have g6:=qae h6;rw[if_neg h6];by_cases h7:op=7
   ·subst h7;rw[if_pos rfl];have e:=qR3 T hT a b ha hb;generalize qnl a b=p at *
    unfold two at *
    simp[qeo,Fr.Aa,e]
   ·have g7:=qae h7;rw[if_neg h7];by_cases h0:b.N=0
    ·rw[if_pos h0];simp[qeo,Fr.Aa,h5,h6,h7,h9,g5,g6,g7,g9,h0,two]
    ·have g0:=qae h0;rw[if_neg h0];have e:=qR4 T hT a b ha hb h0;generalize qjA a b=p at *
     unfold two at *
     simp[qeo,Fr.Aa,h5,h6,h7,h9,g5,g6,g7,g9,h0,g0,e]
def qR1(T:Tab)(hT:HT T)(a:Ah)(t:CO)(ha:a.i):T.val 984 [I 9,.l (K1 2) [a.dv] t]=some (two (qbX (-a.N))):=by
 unfold Ah.i at *
 have s2:qdA (0-a.N)=(.t [.d (Wd (0-a.N)).dv,.d (I 0)],false):=by rw[qdA,if_pos (by omega)]
 have e42:=qCW T hT 0 a.N (by omega) (by omega) (by omega) (by omega);rw[s2]at e42;have e0:=qir T hT 0 (by omega) (by omega);have ea:=qir T hT a.N ha.1 ha.2;have e2:=qqG T hT (0-a.N) (by omega) (by omega);rw[show qbX (-a.N)=qbX (0-a.N)by rw[Int.zero_sub]];generalize Wd (0-a.N)=w at *
 generalize Wd 0=w0 at *
 generalize Wd a.N=wa at *
 generalize qbX (0-a.N)=p at *
 unfold two at *
 rw[qab T (hT 984 qeo rfl) rfl];simp[qeo,Fr.Aa,e0,ea,e42,e2]
def qjn(a b:Int):max a b=if a<b then b else a:=by rw[Int.max_def];split<;>split<;>omega
def qKm{R:Type}{a b:Int}{d:PV->CK R}:bo (mm2 false (.d (I a)) (.d (I b))) (.h d)=d (.d (I (if b<a then b else a))):=by simp[mm2,bo]
def qgf(op a b:Int):Int:=
 if op=10 then (if a=b then 1 else 0)else if op=11 then (if a=b then 0 else 1)else if op=12 then (if a<b then 1 else 0)else if op=13 then (if a<=b then 1 else 0)
 else if op=14 then IntKind.i64.wrap (a*b)else if op=15 then (if a<b then b else a)else if op=17 then (if b<a then b else a)else (if a<b then b else a)
def qRX(T:Tab)(hT:HT T)(op:Int)(a b:Ah)(t:CO)(h1:op≠16)(h2:op≠19):T.val 983 [I op,.l (K1 2) [a.dv,b.dv] t]=some (.d (I (qgf op a.N b.N)),false):=by
 have g1:=qae h1;have g2:=qae h2;unfold qgf;have e:=λc=>qR2 T hT c;rw[qab T (hT 983 qce rfl) rfl];by_cases c1:op=10
 ·subst c1;rw[if_pos rfl];by_cases h:a.N=b.N
  ·simp[qce,Fr.Aa,e,h]
  ·have g:=qae h;simp[qce,Fr.Aa,e,h,g]
 have d1:=qae c1;rw[if_neg c1];by_cases c2:op=11
 ·subst c2;rw[if_pos rfl];by_cases h:a.N=b.N
  ·simp[qce,Fr.Aa,e,h]
  ·have g:=qae h;simp[qce,Fr.Aa,e,h,g]
 have d2:=qae c2;rw[if_neg c2];by_cases c3:op=12
 ·subst c3;rw[if_pos rfl];by_cases h:a.N<b.N
  ·simp[qce,Fr.Aa,e,h]
  ·simp[qce,Fr.Aa,e,h]
 have d3:=qae c3;rw[if_neg c3];by_cases c4:op=13
 ·subst c4;rw[if_pos rfl];by_cases h:a.N<=b.N
  ·simp[qce,Fr.Aa,e,h]
  ·simp[qce,Fr.Aa,e,h]
 have d4:=qae c4;rw[if_neg c4];by_cases c5:op=14
 ·subst c5;rw[if_pos rfl];simp[qce,Fr.Aa]
 have d5:=qae c5;rw[if_neg c5];by_cases c6:op=15
 ·subst c6;rw[if_pos rfl];simp[qce,Fr.Aa];exact qjn _ _
 have d6:=qae c6;rw[if_neg c6];by_cases c7:op=17
 ·subst c7;rw[if_pos rfl];simp[qce,Fr.Aa,↓qKm]
 have d7:=qae c7;rw[if_neg c7];simp[qce,Fr.Aa,h1,h2,g1,g2,c1,c2,c3,c4,c5,c6,c7,d1,d2,d3,d4,d5,d6,d7];exact qjn _ _
def qRZ(T:Tab)(hT:HT T)(a:Ah)(t:CO):T.val 983 [I 16,.l (K1 2) [a.dv] t]=some (.d (I (IntKind.i64.wrap (1-a.N))),false):=by rw[qab T (hT 983 qce rfl) rfl];simp[qce,Fr.Aa]
def qRY(T:Tab)(hT:HT T)(a b c:Ah)(t:CO):T.val 983 [I 19,.l (K1 2) [a.dv,b.dv,c.dv] t]=some (.d (I (if a.N=1 then b.N else c.N)),false):=by
 rw[qab T (hT 983 qce rfl) rfl];by_cases h:a.N=1
 ·simp[qce,Fr.Aa,h]
 ·have g:=qae h;simp[qce,Fr.Aa,h,g]
def qdc(t:Int):CO:=decide (1<=t)&&decide (t<=5)
def qCV(T:Tab)(hT:HT T)(t:Int):T.val 416 [I t]=some (.d (.b (qdc t)),false):=by
 rw[qab T (hT 416 qjR rfl) rfl];unfold qdc;by_cases h:1<=t
 ·simp[qjR,Fr.Aa,h]
 ·simp[qjR,Fr.Aa,h]
def qde(op a:Int):Int×CO:=if op=16 then (5,decide (a=5))else if op=9 then (a,decide (a=1)||(decide (a=2)||decide (a=3)))else (0,false)
def qa9(p:Int×CO):PV×CO:=(.t [.d (I p.1),.d (.b p.2)],false)
def qQW(T:Tab)(hT:HT T)(op a:Int):T.val 417 [I op,I a]=some (qa9 (qde op a)):=by
 rw[qab T (hT 417 qem rfl) rfl];unfold qde;by_cases h:op=16
 ·by_cases c:a=5
  ·simp[qem,Fr.Aa,h,c,qa9]
  ·have g:=qae c;simp[qem,Fr.Aa,h,c,g,qa9]
 ·have g:=qae h;by_cases h2:op=9
  ·by_cases c1:a=1
   ·simp[qem,Fr.Aa,h,g,h2,c1,qa9]
   ·have g1:=qae c1;by_cases c2:a=2
    ·simp[qem,Fr.Aa,h,g,h2,c1,g1,c2,qa9]
    ·have g2:=qae c2;by_cases c3:a=3
     ·simp[qem,Fr.Aa,h,g,h2,c1,g1,c2,g2,c3,qa9]
     ·have g3:=qae c3;simp[qem,Fr.Aa,h,g,h2,c1,g1,c2,g2,c3,g3,qa9]
  ·have g2:=qae h2;simp[qem,Fr.Aa,h,g,h2,g2,qa9]
def arL:CL ((Int×Int×Int)×Int):=[((5,4,1),4),((6,4,1),4),((6,4,4),1),((7,1,1),1),((7,2,3),2),((7,3,2),2),((8,1,1),1),((8,2,2),1),((7,1,2),2),((7,2,1),2),((8,2,1),2),((7,1,3),3),((7,3,1),3),((8,3,1),3),((5,1,1),1),((6,1,1),1),((5,2,2),2),((6,2,2),2),((5,3,3),3),((6,3,3),3)]
def arE(x:(Int×Int×Int)×Int):DV×DV:=(.a [I x.1.1,I x.1.2.1,I x.1.2.2],I x.2)
def arF:CL ((Int×Int×Int)×Int)->Int->Int->Int->CK Int
 |[],_,_,_=>none
 |x::r,op,a,b=>if op=x.1.1/\a=x.1.2.1/\b=x.1.2.2 then some x.2 else arF r op a b
def arV(op a b:Int):Int:=(arF arL op a b).getD 0
def qyh(op a b:Int):∀l,qcG (.a [I op,I a,I b]) (l.map arE)=some ((arF l op a b).map λn=>I n)
 |[]=>rfl
 |x::r=>by
  have e:qbS (.a [I op,I a,I b]) (.a [I x.1.1,I x.1.2.1,I x.1.2.2])=some (decide (op=x.1.1/\a=x.1.2.1/\b=x.1.2.2)):=by simp only[qbS,qdI,qdb,if_true,Bool.and_true];congr 1;by_cases h1:op=x.1.1<;>by_cases h2:a=x.1.2.1<;>by_cases h3:b=x.1.2.2<;>simp[h1,h2,h3]
  simp only[zzu,arE,qcG,e,arF];by_cases h:op=x.1.1/\a=x.1.2.1/\b=x.1.2.2
  ·simp only[h,decide_true,if_true];simp
  ·simp only[h,decide_false,if_false];exact qyh op a b r
def HA(T:Tab):Prop:=T.ref 421 [] []=some (.h 0,[some (.mp (arL.map arE))])
section
variable {R:Type}{E:Env}{ρ:Ab->PV}{H:CW}{id:Nat}{q:PV->CW->CK R}
def qpR(ky:Ky)(z:DV)(H:CW)(x i:PV){q:PV->CK R}(_:Hd q):CK R:=match i,x with
 |.d k,.h o=>if qeW ky k then match H.obj o with
  |some (.mp es)=>match qcG k es with
   |some r=>q (.d (r.getD z))
   |none=>none
  |_=>none
  else none
 |_,_=>none
def qwC{ky:Ky}{z:DV}{x i:Ab}:bo2 (qaa E ρ H id (.mget ky z false x i)) (.h q)=qpR ky z H (ρ x) (ρ i) (.h λv=>q v H):=by
 simp only[qaa,qpR];cases ρ i with
 |d k=>
  cases ρ x with
  |h o=>
   simp only;by_cases hk:qeW ky k=true
   ·simp only[hk,if_true];cases H.obj o with
    |none=>rfl
    |some b=>
     cases b with
     |mp es=>dsimp only;cases qcG k es<;>rfl
     |_=>rfl
   ·simp only[hk,if_false,zzg];rfl
  |_=>rfl
 |_=>cases ρ x<;>rfl
def qKc{op a b:Int}{q:PV->CK R}:qpR (.st [1,1,1]) (I 0) [some (.mp (arL.map arE))] (.h 0) (.d (.a [I op,I a,I b])) (.h q)=q (.d (I (arV op a b))):=by have e:=qyh op a b arL;simp only[qpR,qeW,qh6,qkT,Bool.and_true,if_true,Heap.obj,List.getElem?_cons_zero,Option.join,e];unfold arV;cases arF arL op a b<;>rfl
end
def qc3(op a b:Int):Int×CO:=
 if op=10\/op=11 then (5,decide (a=b))else if op=12\/op=13 then (5,decide (a=b) && !decide (a=5))
 else if op=14\/op=15 then (5,decide (a=b)&&decide (a=5))else if op=17\/op=18 then (a,decide (a=b) && !decide (a=5))
 else (arV op a b,!decide (arV op a b=0))
def qQX(T:Tab)(hT:HT T)(hA:HA T)(op a b:Int):T.val 418 [I op,I a,I b]=some (qa9 (qc3 op a b)):=by
 have hA':T.ref 421 [] []=some (.h 0,[some (.mp (arL.map arE))]):=hA;rw[qab T (hT 418 qcK rfl) rfl];unfold qc3;by_cases h1:op=10\/op=11
 ·rw[if_pos h1];by_cases c:a=b
  ·rcases h1 with h1|h1<;>subst h1<;>simp[qcK,Fr.Aa,c,qa9]
  ·have g:=qae c;rcases h1 with h1|h1<;>subst h1<;>simp[qcK,Fr.Aa,c,g,qa9]
 rw[if_neg h1];by_cases h2:op=12\/op=13
 ·rw[if_pos h2];by_cases c:a=b
  ·by_cases d:a=5
   ·subst d;subst c;rcases h2 with h1|h1<;>subst h1<;>simp[qcK,Fr.Aa,qa9]
   ·have g:=qae d;subst c;rcases h2 with h1|h1<;>subst h1<;>simp[qcK,Fr.Aa,d,g,bne,qa9]
  ·have g:=qae c;rcases h2 with h1|h1<;>subst h1<;>simp[qcK,Fr.Aa,c,g,qa9]
 rw[if_neg h2];by_cases h3:op=14\/op=15
 ·rw[if_pos h3];by_cases c:a=b
  ·by_cases d:a=5
   ·subst d;subst c;rcases h3 with h1|h1<;>subst h1<;>simp[qcK,Fr.Aa,qa9]
   ·have g:=qae d;subst c;rcases h3 with h1|h1<;>subst h1<;>simp[qcK,Fr.Aa,d,g,qa9]
  ·have g:=qae c;rcases h3 with h1|h1<;>subst h1<;>simp[qcK,Fr.Aa,c,g,qa9]
 rw[if_neg h3];by_cases h4:op=17\/op=18
 ·rw[if_pos h4];by_cases c:a=b
  ·by_cases d:a=5
   ·subst d;subst c;rcases h4 with h1|h1<;>subst h1<;>simp[qcK,Fr.Aa,qa9]
   ·have g:=qae d;subst c;rcases h4 with h1|h1<;>subst h1<;>simp[qcK,Fr.Aa,d,g,bne,qa9]
  ·have g:=qae c;rcases h4 with h1|h1<;>subst h1<;>simp[qcK,Fr.Aa,c,g,qa9]
 rw[if_neg h4];have n10:=qae (show ¬op=10 from λh=>h1 (.inl h));have n11:=qae (show ¬op=11 from λh=>h1 (.inr h));have n12:=qae (show ¬op=12 from λh=>h2 (.inl h));have n13:=qae (show ¬op=13 from λh=>h2 (.inr h));have n14:=qae (show ¬op=14 from λh=>h3 (.inl h));have n15:=qae (show ¬op=15 from λh=>h3 (.inr h));have n17:=qae (show ¬op=17 from λh=>h4 (.inl h));have n18:=qae (show ¬op=18 from λh=>h4 (.inr h));have mg:=λd=>@qKc (PV×CO) op a b d;generalize arL.map arE=es at *
 generalize arV op a b=v at *
 by_cases c:v=0
 ·subst c;simp[qcK,Fr.Aa,n10,n11,n12,n13,n14,n15,n17,n18,hA',↓qwC,↓mg,↓qak,↓qam,↓qal,putAt,mkA,qac,qai,qan,qaj,qa9]
 ·have g:=qae c;simp[qcK,Fr.Aa,n10,n11,n12,n13,n14,n15,n17,n18,hA',↓qwC,↓mg,↓qak,↓qam,↓qal,putAt,mkA,qac,qai,qan,qaj,c,g,bne,qa9]
def qJk(T:Tab)(hT:HT T)(op:Int)(z:CE)(t:CO)(hn:z.length<=maxLen){k:KC (PV×CO)}{r:CG}{fr:Fr}{H:CW}(hr:∀fr H,fr.get 4=.d (I 0)->fr.get 5=.d (.b false)->qao fr=[]->k .ret fr H=r)
  (h0:gc [0,1,10,11,12] 0 ⟨fr,H⟩=⟨[(12,.d (I 0)),(11,.d (I z.length)),(10,.d (.l K0 (z.map λn=>I n) t)),(1,.d (.l K0 (z.map λn=>I n) t)),(0,.d (I op))],[]⟩) :
  kC T.env 0 fr H (.h (.loop [0,1,10,11,12] qoa,k))=if z.all qdc=true then k (.exit 0) ((13,.d (.b false))::[(12,.d (I z.length)),(11,.d (I z.length)),(10,.d (.l K0 (z.map λn=>I n) t)),(1,.d (.l K0 (z.map λn=>I n) t)),(0,.d (I op))]) []else r:=by
 rw[qcr z (λi _=>⟨[(12,.d (I i)),(11,.d (I z.length)),(10,.d (.l K0 (z.map λn=>I n) t)),(1,.d (.l K0 (z.map λn=>I n) t)),(0,.d (I op))],[]⟩) (λ_ _=>True) (λi _ p c=>if qdc p=true then c ()else r) (λ_=>k (.exit 0) ((13,.d (.b false))::[(12,.d (I z.length)),(11,.d (I z.length)),(10,.d (.l K0 (z.map λn=>I n) t)),(1,.d (.l K0 (z.map λn=>I n) t)),(0,.d (I op))]) []) ?_ ?_ h0 trivial]
 ·rw[qhp qdc r];exact λ_ _ _ _=>rfl
 ·intro B _ _ _;simp[qoa]
 ·intro B _ i _ hi _ c hc;have hm:=mxl;have h1:(i:Int)<z.length:=by omega
  have h3:=wr1 (i:=i) (by omega);have e:=qCV T hT z[i];cases hk:qdc z[i]with
  |true=>rw[hk]at e;simp[qoa,h1,hi,e,zzj,h3];exact hc () _ _ trivial (by simp)
  |false=>rw[hk]at e;simp[qoa,h1,hi,e,zzj,h3];exact hr _ _ (by simp[Fr.get]) (by simp[Fr.get]) (by simp[qao,gh])
def qb9(op:Int)(ts:CE):Int×CO:=
 if ts.all qdc=true then
  match ts with
  |[a]=>if (qde op a).2=true then ((qde op a).1,true)else (0,false)
  |[a,b]=>if (qc3 op a b).2=true then ((qc3 op a b).1,true)else (0,false)
  |[a,b,c]=>if op=19/\a=5/\b=c then (b,true)else (0,false)
  |_=>(0,false)
 else (0,false)
def qqC(T:Tab)(hT:HT T)(hA:HA T)(op:Int)(ts:CE)(t:CO)(hn:ts.length<=maxLen):T.val 411 [I op,.l K0 (ts.map λn=>I n) t]=some (qa9 (qb9 op ts)):=by
 rw[qab T (hT 411 F411 rfl) rfl];have lp:=λk fr H=>@qJk T hT op ts t hn k (some (qa9 (0,false))) fr H;obtain⟨r,hr⟩:∃r,some (qa9 (qb9 op ts))=r:=⟨_,rfl⟩;rw[hr];unfold qb9 at hr;simp[F411,Fr.Aa];rw[lp]
 ·by_cases ha:ts.all qdc=true
  ·rw[if_pos ha];rw[if_pos ha]at hr;rw[<-hr];clear hr lp ha;simp only[blK,sqK];have hm:=mxl
   match ts,hn with
   |[],_=>show _=some (qa9 (0,false));simp[qa9]
   |[a],_=>
    show _=some (qa9 (if (qde op a).2=true then ((qde op a).1,true)else (0,false)));have e:=qQW T hT op a;unfold qa9 at *
    generalize qde op a=p at *
    obtain⟨p1,p2⟩:=p;cases p2 with
    |true=>simp[e]
    |false=>simp[e]
   |[a,b],_=>
    show _=some (qa9 (if (qc3 op a b).2=true then ((qc3 op a b).1,true)else (0,false)));have e:=qQX T hT hA op a b;unfold qa9 at *
    generalize qc3 op a b=p at *
    obtain⟨p1,p2⟩:=p;cases p2 with
    |true=>simp[e]
    |false=>simp[e]
   |[a,b,c],_=>
    show _=some (qa9 (if op=19/\a=5/\b=c then (b,true)else (0,false)));by_cases h1:op=19
    ·by_cases h2:a=5
     ·by_cases h3:b=c
      ·simp[h1,h2,h3,qa9]
      ·have g3:=qae h3;simp[h1,h2,h3,g3,qa9]
     ·have g2:=qae h2;simp[h1,h2,g2,qa9]
    ·have g1:=qae h1;simp[h1,g1,qa9]
   |a::b::c::d::l,hn=>
    show _=some (qa9 (0,false));have g1:((l.length:Int)+1+1+1+1==1)=false:=qae (by omega);have g2:((l.length:Int)+1+1+1+1==2)=false:=qae (by omega);have g3:((l.length:Int)+1+1+1+1==3)=false:=qae (by omega);have f1:¬((l.length:Int)+1+1+1+1=1):=by omega
    have f2:¬((l.length:Int)+1+1+1+1=2):=by omega
    have f3:¬((l.length:Int)+1+1+1+1=3):=by omega
    simp[g1,g2,g3,f1,f2,f3,qa9]
  ·rw[if_neg ha];rw[if_neg ha]at hr;exact hr
 ·intro fr H h1 h2 h3;simp[h1,h2,h3,qa9]
 ·simp[Fr.drop]
end
section
attribute [local simp ↓] qbm qbn qbg qbz qbp qbJ qbd qbf qbw qbA qbB qbu qbv qbe qby qbj qbH qbE qbl qbG qbF qbC qbD qay qaR qak qam qal
attribute [local simp] qbh qa3 Ar Az qas qaP chg qaY runs qaM qaX PV.refs PV.Av IOp.okD IOp.Bg qbk Nat.testBit putAt mkA qac qai qan qaj Fr.Aa
set_option maxRecDepth 10000
set_option maxHeartbeats 4000000
end
section
attribute [local simp ↓] qbm qbn qbg qbz qbp qbJ qbd qbf qbw qbA qbB qbu qbv qbe qby qbj qbH qbE qbl qbG qbF qbC qbD qay qaR qak qam qal
attribute [local simp] qbh qa3 Ar Az qas qaP chg qaY runs qaM qaX PV.refs PV.Av IOp.okD IOp.Bg qbk Nat.testBit putAt mkA qac qai qan qaj Fr.Aa
set_option maxRecDepth 10000
set_option maxHeartbeats 4000000
end
section
attribute [local simp ↓] qbm qbn qbg qbz qbp qbJ qbd qbf qbw qbA qbB qbu qbv qbe qby qbj qbH qbE qbl qbG qbF qbC qbD qay qaR qak qam qal
attribute [local simp] qbh qa3 Ar Az qas qaP chg qaY runs qaM qaX PV.refs PV.Av IOp.okD IOp.Bg qbk Nat.testBit putAt mkA qac qai qan qaj Fr.Aa
set_option maxRecDepth 10000
set_option maxHeartbeats 4000000
end
section
attribute [local simp ↓] qbm qbn qbg qbz qbp qbJ qbd qbf qbw qbA qbB qbu qbv qbe qby qbj qbH qbE qbR qbQ qbl qbG qbF qbC qbD qay qaR qak qam qal
attribute [local simp] qbh qa3 Ar Az qas qaP chg qaY runs qaM qaX PV.refs PV.Av IOp.okD IOp.Bg qbk Nat.testBit putAt mkA qac qai qan qaj Fr.Aa
set_option maxRecDepth 10000
set_option maxHeartbeats 4000000
end
section
attribute [local simp ↓] qbm qbn qbg qbz qbp qbJ qbd qbf qbw qbA qbB qbu qbv qbe qby qbj qbH qbE qbl qbG qbF qbC qbD qay qaR qak qam qal
attribute [local simp] qbh qa3 Ar Az qas qaP chg qaY runs qaM qaX PV.refs PV.Av IOp.okD IOp.Bg qbk Nat.testBit putAt mkA qac qai qan qaj Fr.Aa
set_option maxRecDepth 10000
set_option maxHeartbeats 4000000
end
section
attribute [local simp ↓] qbm qbn qbg qbz qbp qbJ qbd qbf qbw qbA qbB qbu qbv qbe qby qbj qbH qbE qbR qbQ qbl qbG qbF qbC qbD qay qaR qak qam qal
attribute [local simp] qbh qa3 Ar Az qas qaP chg qaY runs qaM qaX PV.refs PV.Av IOp.okD IOp.Bg qbk Nat.testBit putAt mkA qac qai qan qaj Fr.Aa
set_option maxRecDepth 10000
set_option maxHeartbeats 4000000
end
section
attribute [local simp ↓] qbm qbn qbg qbz qbp qbJ qbd qbf qbw qbA qbB qbu qbv qbe qby qbj qbH qbE qbR qbQ qbl qbG qbF qbC qbD qay qaR qak qam qal
attribute [local simp] qbh qa3 Ar Az qas qaP chg qaY runs qaM qaX PV.refs PV.Av IOp.okD IOp.Bg qbk Nat.testBit putAt mkA qac qai qan qaj Fr.Aa
set_option maxRecDepth 10000
set_option maxHeartbeats 4000000
end
end
section
attribute [local simp ↓] qgR qgP qgH qgQ qgE qgI qgF qgG sqK blK lpK qgW qgU qgS qgV qgT qgy qgA qhA qf9 qf7 qf8 qge qfB qfC qfl qfo qfA qfE qfn qfF qfu qfw qfx qfy qfD qfz qfm qfp qfq qfr qfv qf5 qf2 qfI qfH qfQ qfJ qdn qdT qfK qfL qgY qeX qgX qhv qe6 qfX qfY qfR qfT qfS qeN qf6 qeO qfN qf1 qfV qfU qfP qfO qf0 qf3 qfM qfZ qgz qeM qe5 qgo qg9 qcF qgp qeP qeQ qf4 qdh qhu qfs qga qgb qg2 qhw qgZ qgJ qgK qgL qgM qgN qgO qft qgn
attribute [local simp] qcD qg4 qg5 qgu qgv qgj qgk qhs qht qgr qgs rd IOp.adds qar gh nid rgK rdS qgw qgx qha qhb qhf qhg qhj qhe qhi qhh qfg qfe qff qhd qhc qgm qgl qhl qhk qhm qhn
def qkK{α:Type}(p:α->CO)(l:CL α):Int:=match l.findIdx? p with|some j=>(j:Int)|none=>-1
def qBN{α R:Type}(p:α->CO)(r:Nat->CK R)(done:Unit->CK R)(step:Nat->Unit->α->(Unit->CK R)->CK R)(hs:∀i b x c,step i b x c=if p x=true then r i else c ()):∀(i:Nat) (ls:CL α),rounds step done i () ls=match ls.findIdx? p with|some j=>r (i+j)|none=>done ()
 |i,[]=>by simp[rounds]
 |i,x::l=>by
  rw[rounds,hs,qBN p r done step hs (i+1) l,List.findIdx?_cons];cases h:p x with
  |true=>simp
  |false=>
   simp only[zzg,if_false];cases l.findIdx? p with
   |none=>simp
   |some j=>simp;congr 1;omega
section
variable {α:Type}
def qJl(T:Tab)(g:Nat)(q:K)(dv:α->DV)(p:α->CO)(c:PV)(cs:Cz)(H0:CW)(hH:Cl H0)(hc:∀r∈PV.Av (c::cs),r<H0.length)(l:CL α)(hv:∀x∈l,T.ref g (.d (dv x)::c::cs) H0=some (.d (.b (p x)),H0))(s:CO)(hn:l.length<=maxLen){k:KC (PV×CW)}{r:Nat->CJ}{fr:Fr}{H:CW}
  (hr:∀(j:Nat) fr J,fr.get 4=.d (I j)->qao fr=[]->k .ret fr (H0++J)=r j)
  (h0:gc [0,1,7,8] H0.length ⟨fr,H⟩=⟨[(8,.d (I 0)),(7,.d (I l.length)),(1,.f g (c::cs)),(0,.d (.l q (l.map dv) s))],H0⟩) :
  kC T.env H0.length fr H (.h (.loop [0,1,7,8] (qon q),k))=match l.findIdx? p with|some j=>r j|none=>k (.exit 0) [(9,.d (.b false)),(8,.d (I l.length)),(7,.d (I l.length)),(1,.f g (c::cs)),(0,.d (.l q (l.map dv) s))] H0:=by
 rw[qcr l (λi _=>⟨[(8,.d (I i)),(7,.d (I l.length)),(1,.f g (c::cs)),(0,.d (.l q (l.map dv) s))],H0⟩) (λ_ _=>True) (λi _ x c=>if p x=true then r i else c ()) (λ_=>k (.exit 0) [(9,.d (.b false)),(8,.d (I l.length)),(7,.d (I l.length)),(1,.f g (c::cs)),(0,.d (.l q (l.map dv) s))] H0) ?_ ?_ h0 trivial]
 ·rw[qBN p r _ _ (λ_ _ _ _=>rfl)];simp only[Nat.zero_add]
 ·intro B _ _ _;simp[qon]
 ·intro B _ i _ hi _ cc hcc;have hm:=mxl;have h1:(i:Int)<l.length:=by omega
  have h3:=wr1 (i:=i) (by omega);have he:=hv l[i] (zzs hi);simp[qon,h1,hi,he];repeat' (refine qbx (λh=>?_) (λh=>?_)<;>(try simp at h)<;>(try simp[h,h3]))
  ·simpa using hr i _ [] (by simp[Fr.get]) (by simp[qao,gh])
  ·refine hcc () _ _ trivial ?_;rw[qmV _ hH (by simpa[qaw,Fr.keep,PV.refs,PV.Av,gh]using hc)];simp[Fr.keep,gh]
def qud(T:Tab){n:Nat}{q:K}(hF:T.F n=some (qj4 q))(g:Nat)(dv:α->DV)(p:α->CO)(c:PV)(cs:Cz)(H0:CW)(hH:Cl H0)(hc:∀r∈PV.Av (c::cs),r<H0.length)(l:CL α)(hv:∀x∈l,T.ref g (.d (dv x)::c::cs) H0=some (.d (.b (p x)),H0))(s:CO)(hn:l.length<=maxLen) :
  T.ref n [.d (.l q (l.map dv) s),.f g (c::cs)] H0=some (.d (I (qkK p l)),H0):=by
 rw[qdP T hF rfl];have lp:=λk r fr H=>@qJl α T g q dv p c cs H0 hH hc l hv s hn k r fr H;simp[qj4,Fr.Aa];refine (lp _ (λj=>some (.d (I j),H0)) _ _ ?_ ?_).trans ?_
 ·intro j fr J h1 h2;simp[h1,h2,qcW,qja hH]
 ·rw[qmV _ hH (by simpa[qaw,Fr.keep,PV.refs,PV.Av,gh]using hc)];simp[Fr.keep,gh]
 ·unfold qkK;cases l.findIdx? p with
  |some j=>rfl
  |none=>simp[qcW,qpc hH]
end
end
section
attribute [local simp ↓] qgR qgP qgH qgQ qgE qgI qgF qgG sqK blK lpK qgW qgU qgS qgV qgT qgy qgA qhA qf9 qf7 qf8 qge qfB qfC qfl qfo qfA qfE qfn qfF qfu qfw qfx qfy qfD qfz qfm qfp qfq qfr qfv qf5 qf2 qfI qfH qfQ qfJ qdn qdT qfK qfL qgY qeX qgX qhv qe6 qfX qfY qfR qfT qfS qeN qf6 qeO qfN qf1 qfV qfU qfP qfO qf0 qf3 qfM qfZ qgz qeM qe5 qgo qg9 qcF qgp qeP qeQ qf4 qdh qhu qfs qga qgb qg2 qhw qgZ qgJ qgK qgL qgM qgN qgO qft qgn qeL
attribute [local simp] qcD qg4 qg5 qgu qgv qgj qgk qhs qht qgr qgs rd IOp.adds qar gh nid rgK rdS qgw qgx qha qhb qhf qhg qhj qhe qhi qhh qfg qfe qff qhd qhc qgm qgl qhl qhk qhm qhn qgq qhZ qh0 qds qia qbL qif
def AB.zero:AB:=⟨0,0,0,0,[],[],[]⟩
def AX.zero:AX:=⟨⟨[],true⟩,false,0,0,false⟩
def Aj.zero:Aj:=⟨[],[],[],0,0,0,0,AX.zero,AX.zero,⟨[],true⟩,⟨[],true⟩⟩
def qid(id:Int)(a:AB):CO:=a.Id==id
def qdG(b:Af)(id:Int):CK AB:=(b.A7.l.findIdx? (qid id)).bind λj=>b.A7.l[j]?
abbrev HU(T:Tab):Prop:=∀n F,tabU.get n=some F->T.F n=some F
def qO1(T:Tab)(hT:HU T)(a:AB)(b:Af)(id:Int):T.ref 19 [.d a.dv,.p 1 0 0] [some (.box (K1 22) (.d b.dv)),some (.box K0 (.d (I id)))]=some (.d (.b (qid id a)),[some (.box (K1 22) (.d b.dv)),some (.box K0 (.d (I id)))]):=by rw[qdP T (hT 19 F19 rfl) rfl];have hH:=qn0 (K1 22) K0 b.dv (I id);simp[F19,Fr.Aa,qcW,qid];exact (qja hH [some (.box (K1 7) (.d a.dv))] _)
def qQC(T:Tab)(hT:HU T)(b:Af)(id:Int)(hb:b.ok):T.val 16 [b.dv,I id]=some (.d (I (qkK (qid id) b.A7.l)),false):=by rw[qab T (hT 16 F16 rfl) rfl];have e:=qud T (hT 18 F18 rfl) 19 AB.dv (qid id) (.p 1 0 0) [] [some (.box (K1 22) (.d b.dv)),some (.box K0 (.d (I id)))] (qn0 _ _ _ _) (by simp[PV.refs,PV.Av]) b.A7.l (λa _=>qO1 T hT a b id) b.A7.t (hb.2.2.2.2.2.1).1;simp[F16,Fr.Aa,e]
def qqB(T:Tab)(hT:HU T)(b:Af)(id:Int)(hb:b.ok):T.val 12 [b.dv,I id]=some (.t [.d ((qdG b id).getD .zero).dv,.d (.b (qdG b id).isSome)],false):=by
 rw[qab T (hT 12 F12 rfl) rfl];have e:=qQC T hT b id hb;unfold qkK at e;unfold qdG;cases hf:b.A7.l.findIdx? (qid id)with
 |none=>rw[hf]at e;simp[F12,Fr.Aa,e];try rfl
 |some j=>rw[hf]at e;have hj:j<b.A7.l.length:=(List.findIdx?_eq_some_iff_findIdx_eq.1 hf).1;simp[F12,Fr.Aa,e,hj];try rfl
def qaU{α β:Type}(f:Nat->β->α->β):Nat->β->CL α->β
  |_,b,[]=>b
  |i,b,x::r=>qaU f (i+1) (f i b x) r
def qii{α β R:Type}(f:Nat->β->α->β)(done:β->CK R)(step:Nat->β->α->(β->CK R)->CK R)(hs:∀i b x c,step i b x c=c (f i b x)):∀(i:Nat) (b:β) (ls:CL α),rounds step done i b ls=done (qaU f i b ls)
  |i,b,[]=>rfl
  |i,b,x::l=>by rw[rounds,hs,qaU,qii f done step hs (i+1)]
def qx1{α β:Type}(f:Nat->β->α->β)(P:Nat->β->Prop)(h:∀i b x,P i b->P (i+1) (f i b x)):∀(l:CL α) (i:Nat) (b:β),P i b->P (i+l.length) (qaU f i b l)
  |[],i,b,hb=>hb
  |x::l,i,b,hb=>by have:=qx1 f P h l (i+1) (f i b x) (h i b x hb);rw[zzn,show i+(l.length+1)=i+1+l.length by omega];exact this
def frm(l:CL Aj)(b:Int):Int:=match l[b.toNat]? with|some p=>p.From|none=>0
def cAt(l:CL Aj)(nm:CB)(day b:Int)(p:Aj):CO:=(p.Name==nm)&&(decide (p.From<=day)&&(decide (b<0)||decide (frm l b<p.From)))
def fAt(l:CL Aj)(nm:CB)(day:Int)(i:Nat)(b:Int)(p:Aj):Int:=if cAt l nm day b p=true then (i:Int)else b
def bst(l:CL Aj)(nm:CB)(day:Int):Int:=qaU (fAt l nm day) 0 (-1) l
def inB(i:Nat)(b:Int):Prop:=b=-1\/∃j:Nat,b=(j:Int)/\j<i
def qyC(l:CL Aj)(nm:CB)(day:Int)(i:Nat)(b:Int)(p:Aj)(h:inB i b):inB (i+1) (fAt l nm day i b p):=by
  unfold fAt;split
  · exact .inr ⟨i,rfl,by omega⟩
  · rcases h with h|⟨j,h1,h2⟩
    · exact .inl h
    · exact .inr ⟨j,h1,by omega⟩
def qEF(l:CL Aj)(nm:CB)(day:Int):inB l.length (bst l nm day):=by have:=qx1 (fAt l nm day) inB (qyC l nm day) l 0 (-1) (.inl rfl);simpa[bst]using this
def atP(l:CL Aj)(nm:CB)(day:Int):CK Aj:=if bst l nm day<0 then none else l[(bst l nm day).toNat]?
def qJv(T:Tab)(l:CL Aj)(t:CO)(nm:CB)(day:Int)(hn:l.length<=maxLen){k:KC (PV×CO)}{fr:Fr}{H:CW}
    (h0:gc [0,1,2,6,8,11,12,13] 0 ⟨fr,H⟩=⟨[(13,.d (I 0)),(12,.d (I l.length)),(11,.d (.l (K1 19) (l.map Aj.dv) t)),(8,.d (I (-1))),(6,.p 0 0 0),(2,.d (I day)),(1,.d (.s nm)),(0,.d (.l (K1 19) (l.map Aj.dv) t))],[some (.box (K1 19) (.d Aj.zero.dv))]⟩) :
    kC T.env 0 fr H (.h (.loop [0,1,2,6,8,11,12,13] qn9,k))=k (.exit 0) [(14,.d (.b false)),(13,.d (I l.length)),(12,.d (I l.length)),(11,.d (.l (K1 19) (l.map Aj.dv) t)),(8,.d (I (bst l nm day))),(6,.p 0 0 0),(2,.d (I day)),(1,.d (.s nm)),(0,.d (.l (K1 19) (l.map Aj.dv) t))] [some (.box (K1 19) (.d Aj.zero.dv))]:=by
  rw[qcr l (λi b=>⟨[(13,.d (I i)),(12,.d (I l.length)),(11,.d (.l (K1 19) (l.map Aj.dv) t)),(8,.d (I b)),(6,.p 0 0 0),(2,.d (I day)),(1,.d (.s nm)),(0,.d (.l (K1 19) (l.map Aj.dv) t))],[some (.box (K1 19) (.d Aj.zero.dv))]⟩) inB (λi b x c=>c (fAt l nm day i b x)) (λb=>k (.exit 0) [(14,.d (.b false)),(13,.d (I l.length)),(12,.d (I l.length)),(11,.d (.l (K1 19) (l.map Aj.dv) t)),(8,.d (I b)),(6,.p 0 0 0),(2,.d (I day)),(1,.d (.s nm)),(0,.d (.l (K1 19) (l.map Aj.dv) t))] [some (.box (K1 19) (.d Aj.zero.dv))]) ?_ ?_ h0 (.inl rfl)]
  · rw[qii (fAt l nm day) _ _ (λ_ _ _ _=>rfl)];rfl
  · intro B _ b _;simp[qn9]
  · intro B _ i b hi hv c hc;have hm:=mxl;have h1:(i:Int)<l.length:=by omega
    have h3:=wr1 (i:=i) (by omega);have hs:=qyC l nm day i b l[i] hv;rcases hv with rfl|⟨j,rfl,hj⟩
    · simp[qn9,h1,hi,↓qbm,↓qbg,↓qbp,↓qbd,qbh,↓qbf,↓qbe,↓qbj,↓qbl,qa3,Ar,Az,qas,qaP,chg,qaY,runs,qaM,qaX,PV.refs,IOp.okD,Nat.testBit]
      repeat' (refine qbx (λh=>?_) (λh=>?_)<;>(try simp at h)<;>(try simp[h,h3,↓qbn,↓qbg,↓qbp,↓qbd,qbh,↓qbf,↓qbw,↓qbe,↓qbj,↓qbl,↓qb2,qa3,Ar,Az,qas,qaP,chg,qaY,runs,qaM,qaX,PV.refs,PV.Av,IOp.okD,Nat.testBit]))
      all_goals first
        | (have e:fAt l nm day i (-1) l[i]=(i:Int):=by simp[fAt,cAt, *]
           rw[e]at hs⊢;exact hc _ _ _ hs (by simp[gc,Fr.keep,qaH,qaw,qat,PV.refs,qaJ,gcH,qaO,Obj.refs,PV.ren,Obj.ren,Heap.obj,Fr.ren,gh,zzd]))
        | (have e:fAt l nm day i (-1) l[i]=-1:=by simp[fAt,cAt, *]
           rw[e]at hs⊢;exact hc _ _ _ hs (by simp[gc,Fr.keep,qaH,qaw,qat,PV.refs,qaJ,gcH,qaO,Obj.refs,PV.ren,Obj.ren,Heap.obj,Fr.ren,gh,zzd]))
    · have hj1:j<l.length:=by omega
      have hj2:(j:Int)<l.length:=by omega
      have hg:l[j]? = some l[j]:=zze hj1;simp[qn9,h1,hi,↓qbm,↓qbg,↓qbp,↓qbd,qbh,↓qbf,↓qbe,↓qbj,↓qbl,qa3,Ar,Az,qas,qaP,chg,qaY,runs,qaM,qaX,PV.refs,IOp.okD,Nat.testBit];repeat' (refine qbx (λh=>?_) (λh=>?_)<;>(try simp at h)<;>(try simp[h,h3,hj1,hj2,↓qbn,↓qbg,↓qbp,↓qbd,qbh,↓qbf,↓qbw,↓qbe,↓qbj,↓qbl,↓qb2,qa3,Ar,Az,qas,qaP,chg,qaY,runs,qaM,qaX,PV.refs,PV.Av,IOp.okD,Nat.testBit]))
      all_goals first
        | (have e:fAt l nm day i j l[i]=(i:Int):=by simp[fAt,cAt,frm, *]
           rw[e]at hs⊢;exact hc _ _ _ hs (by simp[gc,Fr.keep,qaH,qaw,qat,PV.refs,qaJ,gcH,qaO,Obj.refs,PV.ren,Obj.ren,Heap.obj,Fr.ren,gh,zzd]))
        | (have e:fAt l nm day i j l[i]=j:=by
             simp[fAt,cAt,frm, *];try omega
           rw[e]at hs⊢;exact hc _ _ _ hs (by simp[gc,Fr.keep,qaH,qaw,qat,PV.refs,qaJ,gcH,qaO,Obj.refs,PV.ren,Obj.ren,Heap.obj,Fr.ren,gh,zzd]))
def qQJ(T:Tab)(hT:HU T)(l:CL Aj)(t:CO)(nm:CB)(day:Int)(hn:l.length<=maxLen):T.val 30 [.l (K1 19) (l.map Aj.dv) t,.s nm,I day]=some (.t [.d ((atP l nm day).getD .zero).dv,.d (.b (atP l nm day).isSome)],false):=by
  rw[qab T (hT 30 F30 rfl) rfl];have lp:=λk fr H=>@qJv T l t nm day hn k fr H;simp[F30,Fr.Aa];refine (lp _ _ _ (by simp[gc,Fr.keep,qaH,qaw,qat,PV.refs,qaJ,gcH,qaO,Obj.refs,PV.ren,Obj.ren,Heap.obj,Fr.ren,gh,zzd];rfl)).trans ?_;have hb:=qEF l nm day;unfold atP;generalize bst l nm day=b at hb⊢;rcases hb with rfl|⟨j,rfl,hj⟩
  · simp;try rfl
  · have hj2:(j:Int)<l.length:=by omega
    have hg:l[j]? = some l[j]:=zze hj;simp[hj,hj2];repeat' (refine qbx (λh=>?_) (λh=>?_)<;>(try simp at h)<;>(try simp[h,hj,hj2]))
def qdM(b:Af)(id day:Int):CK Aj:=match qdG b id with|some a=>atP b.AZ.l a.Cq day|none=>none
def qCO(T:Tab)(hT:HU T)(b:Af)(id day:Int)(hb:b.ok):T.val 24 [b.dv,I id,I day]=some (.t [.d ((qdM b id day).getD .zero).dv,.d (.b (qdM b id day).isSome)],false):=by
 rw[qab T (hT 24 F24 rfl) rfl];have e1:=qqB T hT b id hb;have e2:=λnm=>qQJ T hT b.AZ.l b.AZ.t nm day (hb.2.2.2.2.1).1;unfold qdM;cases hf:qdG b id with
 |none=>rw[hf]at e1;simp only[Option.getD_none,Option.isSome_none]at e1;simp[F24,Fr.Aa,e1];try rfl
 |some a=>rw[hf]at e1;simp only[zzA,Option.isSome_some]at e1;simp[F24,Fr.Aa,e1,e2]
def w64(n:Int):Int:=IntKind.i64.wrap n
end
section
attribute [local simp ↓] qgR qgP qgH qgQ qgE qgI qgF qgG sqK blK lpK qgW qgU qgS qgV qgT qgy qgA qhA qf9 qf7 qf8 qge qfB qfC qfl qfo qfA qfE qfn qfF qfu qfw qfx qfy qfD qfz qfm qfp qfq qfr qfv qf5 qf2 qfI qfH qfQ qfJ qdn qdT qfK qfL qgY qeX qgX qhv qe6 qfX qfY qfR qfT qfS qeN qf6 qeO qfN qf1 qfV qfU qfP qfO qf0 qf3 qfM qfZ qgz qeM qe5 qgo qg9 qcF qgp qeP qeQ qf4 qdh qhu qfs qga qgb qg2 qhw qgZ qgJ qgK qgL qgM qgN qgO qft qgn qeL qiM qiN qiK qiL qiI qhS qiS qiO qjq qiP qjG
attribute [local simp] qcD qg4 qg5 qgu qgv qgj qgk qhs qht qgr qgs rd IOp.adds qar gh nid rgK rdS qgw qgx qha qhb qhf qhg qhj qhe qhi qhh qfg qfe qff qhd qhc qgm qgl qhl qhk qhm qhn qgq qhZ qh0 qds qia qbL qif qjz qi8 qjy qjx
def qah(k:K):Cy->PV
  |[]=>.d (.l k [] true)
  |_x::r=>.r 0 k 0 (r.length+1) false
def qaz(k:K):Cy->CW
  |[]=>[]
  |x::r=>[some (.sl k 0 (x::r))]
end
section
attribute [local simp ↓] qgR qgP qgH qgQ qgE qgI qgF qgG sqK blK lpK qgW qgU qgS qgV qgT qgy qgA qhA qf9 qf7 qf8 qge qfB qfC qfl qfo qfA qfE qfn qfF qfu qfw qfx qfy qfD qfz qfm qfp qfq qfr qfv qf5 qf2 qfI qfH qfQ qfJ qdn qdT qfK qfL qgY qeX qgX qhv qe6 qfX qfY qfR qfT qfS qeN qf6 qeO qfN qf1 qfV qfU qfP qfO qf0 qf3 qfM qfZ qgz qeM qe5 qgo qg9 qcF qgp qeP qeQ qf4 qdh qhu qfs qga qgb qg2 qhw qgZ qgJ qgK qgL qgM qgN qgO qft qgn qeL qiM qiN qiK qiL qiI qhS qiS qiO qjq qiP qjG qkq qfW
attribute [local simp] qcD qg4 qg5 qgu qgv qgj qgk qhs qht qgr qgs rd IOp.adds qar gh nid rgK rdS qgw qgx qha qhb qhf qhg qhj qhe qhi qhh qfg qfe qff qhd qhc qgm qgl qhl qhk qhm qhn qgq qhZ qh0 qds qia qbL qif qjz qi8 qjy qjx
def qwF{y:Int}(h:2000<=y)(h2:y<=2200):0<=bgI y/\bgI y<=73049:=by unfold bgI;split<;>omega
def qw2(y:Int):∀m:Nat,m<=12->0<=cmI y m/\cmI y m<=31*m
 |0,_=>⟨Int.le_refl _,Int.le_refl _⟩
 |m+1,h=>by have:=qw2 y m (by omega);have:=qkV (y:=y) (m:=1+m) (by omega) (by omega);simp only[cmI];omega
def qJS(T:Tab)(hT:HV T)(y d:Int)(m:Nat)(hm:m<12)(hy:2000<=y)(hy2:y<=2200)(hd:0<=d)(hd2:d<1000){k:KC (PV×CO)}{fr:Fr}{H:CW}(h0:gc [0,1,8,9] 0 ⟨fr,H⟩=⟨[(9,.d (I 1)),(8,.d (I (bgI y+d))),(1,.d (I (1+m))),(0,.d (I y))],[]⟩) :
  kC T.env 0 fr H (.h (.loop [0,1,8,9] qri,k))=k (.exit 0) [(42,.d (.b false)),(9,.d (I (1+m))),(8,.d (I (bgI y+d+cmI y m))),(1,.d (I (1+m))),(0,.d (I y))] []:=by
 have hb:=qwF hy hy2;refine qh9 (λs:Int×Int=>⟨[(9,.d (I s.1)),(8,.d (I s.2)),(1,.d (I (1+m))),(0,.d (I y))],[]⟩) (λi=>(1+(i:Int),bgI y+d+cmI y i)) m ?_ ?_ (by rw[h0];simp[cmI])
 ·intro B _;simp[qri]
 ·intro B _ i hi c hc;have e:=qqF T hT y (1+i) (by omega) (by omega);have g:(1:Int)+i<1+m:=by omega
  have g2:((i:Int)<m):=by omega
  have w:IntKind.i64.wrap (1+(i:Int)+1)=1+(i:Int)+1:=wrI (by omega) (by omega);have w2:IntKind.i64.wrap (bgI y+d+cmI y i+lnI y (1+i))=bgI y+d+cmI y (i+1):=by have:=qkV (y:=y) (m:=1+i) (by omega) (by omega);have:=qw2 y i (by omega);rw[wrI (by omega) (by omega)];simp only[cmI];omega
  simp[qri,w,e,g,w2];exact hc _ _ (by simp[gc,Fr.keep,qaH,qaw,qat,PV.refs,gcH,PV.ren,Obj.ren,Heap.obj,Fr.ren,gh];omega)
def qRQ(T:Tab)(hT:HV T)(y d:Int)(m:Nat)(hm:m<12)(hy:2000<=y)(hy2:y<2200)(hd:1<=d)(hd2:d<=lnI y (1+m)):T.val 933 [I y,I (1+m),I d]=some (.t [.d (I (bgI y+(d-1)+cmI y m)),.d (I 0)],false):=by
 rw[qab T (hT 933 F933 rfl) rfl];have l:=qkV (y:=y) (m:=1+m) (by omega) (by omega);have hb:=qwF hy (by omega);have g1:¬y<2000:=by omega
 have g2:¬2199<y:=by omega
 have g3:¬(1+(m:Int)<1):=by omega
 have g4:¬(12<1+(m:Int)):=by omega
 have g5:¬d<1:=by omega
 have g6:¬lnI y (1+m)<d:=by omega
 have e:=qqF T hT y (1+m) (by omega) (by omega);have e2:=qqE T hT y hy (by omega);have w1:IntKind.i64.wrap (bgI y+d)=bgI y+d:=wrI (by omega) (by omega);have w2:IntKind.i64.wrap (bgI y+d-1)=bgI y+(d-1):=by rw[wrI (by omega) (by omega)];omega
 have lp:=λk fr H=>@qJS T hT y (d-1) m hm hy (by omega) (by omega) (by omega) k fr H;simp[F933,Fr.Aa,g1,g2,g3,g4,g5,g6,e,e2,w1,w2];refine (lp _ _ _ (by simp[gc,Fr.keep,qaH,qaw,qat,PV.refs,gcH,PV.ren,Obj.ren,Heap.obj,Fr.ren,gh])).trans ?_;simp
def qRB(T:Tab)(hT:HV T)(d:Int)(n m:Nat)(h:Civ d n m):T.val 879 [I d]=some (.d (I (bgI (2000+n)+cmI (2000+n) m)),false):=by rw[qab T (hT 879 ql1 rfl) rfl];have e:=qRm T hT d n m h;obtain⟨h1,h2,h3,h4,h5,h6⟩:=h;have l:=qkV (y:=2000+n) (m:=1+m) (by omega) (by omega);have e2:=qRQ T hT (2000+n) 1 m h4 (by omega) (by omega) (by omega) (by omega);simp[ql1,Fr.Aa,e,e2]
noncomputable def mst(d:Int):Int:=if h:qaZ d=true then bgI (2000+(Classical.choose (qoF h):Nat))+cmI (2000+(Classical.choose (qoF h):Nat)) (Classical.choose (Classical.choose_spec (qoF h)))else 0
def qKv{d:Int}(h:qaZ d=true):∃n m,Civ d n m/\mst d=bgI (2000+n)+cmI (2000+n) m:=by refine⟨_,_,Classical.choose_spec (Classical.choose_spec (qoF h)),?_⟩;simp only[mst,h,dite_true]
def qRC(T:Tab)(hT:HV T)(d:Int)(h:qaZ d=true):T.val 879 [I d]=some (.d (I (mst d)),false):=by obtain⟨n,m,h1,e⟩:=qKv h;rw[e];exact qRB T hT d n m h1
def qkl(b:Af)(id day:Int):CO:=match qdG b id with
 |none=>false
 |some a=>decide (a.BQ<=day)&&((a.Closed==0)||decide (day<a.Closed))
def qCT(T:Tab)(hT:HV T)(hU:HU T)(b:Af)(id day:Int)(hb:b.ok):T.val 39 [b.dv,I id,I day]=some (.d (.b (qkl b id day)),false):=by
 rw[qab T (hT 39 F39 rfl) rfl];have e:=qqB T hU b id hb;unfold qkl;cases hf:qdG b id with
 |none=>rw[hf]at e;simp only[Option.getD_none,Option.isSome_none]at e;simp[F39,Fr.Aa,e]
 |some a=>
  rw[hf]at e;simp only[zzA,Option.isSome_some]at e;simp[F39,Fr.Aa,e];repeat' (refine qbx (λh=>?_) (λh=>?_)<;>(try simp at h)<;>(try simp[h]))
  all_goals (first|(simp_all;done)|omega)
def qdr(acc:Int)(_:Nat)(n:Int)(x:Ad):Int:=if (x.AL==acc)=true then w64 (n-x.Amount)else n
def qAx(acc:Int)(e:Ag):Int:=qaU (qdr acc) 0 0 e.Ai.l
def qo1(acc:Int)(_:Nat)(n:Int)(e:Ag):Int:=w64 (n+qAx acc e)
def ofR(j:CL Ag)(acc:Int):Int:=qaU (qo1 acc) 0 0 j
mutual
def qaQ:DV->Int->Int
 |.a [_,_,_,.l _ es _],m=>qci es 1 m
 |_,_=>1
def qci:Cy->Int->Int->Int
 |[],n,_=>n
 |e::es,n,m=>if n<=m then qci es (n+qaQ e (m-n)) m else n
end
mutual
def qoJ:∀(e:DV) (m:Int),0<=m->1<=qaQ e m/\qaQ e m<=m+1
 |.a [_,_,_,.l _ es _],m,h=>by unfold qaQ;exact qw3 es 1 m (by omega) (by omega)
 |.a [],m,h=>by unfold qaQ;omega
 |.a [_],m,h=>by unfold qaQ;omega
 |.a [_,_],m,h=>by unfold qaQ;omega
 |.a [_,_,_],m,h=>by unfold qaQ;omega
 |.a (_::_::_::.b _::_),m,h=>by unfold qaQ;omega
 |.a (_::_::_::.i _ _::_),m,h=>by unfold qaQ;omega
 |.a (_::_::_::.s _::_),m,h=>by unfold qaQ;omega
 |.a (_::_::_::.a _::_),m,h=>by unfold qaQ;omega
 |.a (_::_::_::.np::_),m,h=>by unfold qaQ;omega
 |.a (_::_::_::.nf::_),m,h=>by unfold qaQ;omega
 |.a (_::_::_::.ni::_),m,h=>by unfold qaQ;omega
 |.a (_::_::_::.nm::_),m,h=>by unfold qaQ;omega
 |.a (_::_::_::.ifc _ _::_),m,h=>by unfold qaQ;omega
 |.a (_::_::_::.tok _::_),m,h=>by unfold qaQ;omega
 |.a (_::_::_::.l _ _ _::_::_),m,h=>by unfold qaQ;omega
 |.b _,m,h=>by unfold qaQ;omega
 |.i _ _,m,h=>by unfold qaQ;omega
 |.s _,m,h=>by unfold qaQ;omega
 |.l _ _ _,m,h=>by unfold qaQ;omega
 |.np,m,h=>by unfold qaQ;omega
 |.nf,m,h=>by unfold qaQ;omega
 |.ni,m,h=>by unfold qaQ;omega
 |.nm,m,h=>by unfold qaQ;omega
 |.ifc _ _,m,h=>by unfold qaQ;omega
 |.tok _,m,h=>by unfold qaQ;omega
def qw3:∀(es:Cy) (n m:Int),1<=n->n<=m+1->1<=qci es n m/\qci es n m<=m+1
 |[],n,m,h1,h2=>⟨h1,h2⟩
 |e::es,n,m,h1,h2=>by
  unfold qci;split
  ·rename_i h;have:=qoJ e (m-n) (by omega);exact qw3 es _ m (by omega) (by omega)
  ·exact⟨h1,h2⟩
end
def qJW(T:Tab)(x:Ae)(l:CL Ae)(hl:x.AR.l=l.map Ae.dv)(m:Int)(hm0:0<=m)(hm1:m<=1000)(hn:l.length<=maxLen)(hv:∀y∈l,∀m',0<=m'->m'<=1000->T.val 950 [y.dv,I m']=some (.d (I (qaQ y.dv m')),false)){k:KC (PV×CO)}{r:Int->CG}{fr:Fr}{H:CW}
  (hk:∀(i:Nat) (n:Int),k (.exit 0) [(16,.d (.b false)),(6,.d (I i)),(5,.d (I n)),(2,.p 0 0 0),(1,.d (I m))] [some (.box (K1 4) (.d x.dv))]=r n)
  (h0:gc [1,2,5,6] 0 ⟨fr,H⟩=⟨[(6,.d (I 0)),(5,.d (I 1)),(2,.p 0 0 0),(1,.d (I m))],[some (.box (K1 4) (.d x.dv))]⟩) :
  kC T.env 0 fr H (.h (.loop [1,2,5,6] qrk,k))=r (qci x.AR.l 1 m):=by
 have hm:=mxl;rw[qcr l (λi (n:Int)=>⟨[(6,.d (I i)),(5,.d (I n)),(2,.p 0 0 0),(1,.d (I m))],[some (.box (K1 4) (.d x.dv))]⟩) (λ_ n=>1<=n/\n<=m+1) (λi n y c=>if n<=m then c (n+qaQ y.dv (m-n))else r n) r ?_ ?_ h0 ⟨by omega,by omega⟩]
 ·have key:∀(es:CL Ae) (i:Nat) (n:Int),rounds (λi n y c=>if n<=m then c (n+qaQ (Ae.dv y) (m-n))else r n) r i n es=r (qci (es.map Ae.dv) n m):=by
   intro es;induction es with
   |nil=>intro i n;simp[rounds,qci]
   |cons y es ih=>
    intro i n;rw[rounds,zzu,qci];split
    ·exact ih _ _
    ·rfl
  rw[hl];exact key l 0 1
 ·intro B _ n _;have:=hk l.length n;simp[qrk,hl];exact this
 ·intro B _ i n hi hn1 c hc;have h1:(i:Int)<l.length:=by omega
  have h3:=wr1 (i:=i) (by omega);have h4:IntKind.i64.wrap (m-n)=m-n:=wrI (by omega) (by omega);simp[qrk,h1,hl];refine qbx (λh=>?_) (λh=>?_)
  ·simp at h;have hb:=qoJ l[i].dv (m-n) (by omega);have h5:IntKind.i64.wrap (n+qaQ l[i].dv (m-n))=n+qaQ l[i].dv (m-n):=wrI (by omega) (by omega);have hw:=hv l[i] (zzs hi) (m-n) (by omega) (by omega);simp[h,h1,hi,h3,h4,h5,hw,hl];exact hc _ _ _ ⟨by omega,by omega⟩ (by simp[gc,Fr.keep,qaH,qaw,qat,PV.refs,qaJ,gcH,qaO,Obj.refs,PV.ren,Obj.ren,Heap.obj,Fr.ren,gh,zzd])
  ·simp at h;have h':¬n<=m:=by omega
   simp[h'];exact hk i n
def qC5(T:Tab)(hT:HU T):∀(n:Nat) (x:Ae),SizeOf.sizeOf x.dv<n->x.ok->∀m,0<=m->m<=1000->T.val 950 [x.dv,I m]=some (.d (I (qaQ x.dv m)),false)
 |0,_,h,_,_,_,_=>absurd h (zzm _)
 |n+1,x,hs,hx,m,h0,h1=>by
  obtain⟨hlen,l,hl,hlo⟩:=qoC hx.2.2.2;rw[qab T (hT 950 F950 rfl) rfl];have hn:l.length<=maxLen:=by rw[hl]at hlen;simpa using hlen
  have lp:=λk r fr H=>@qJW T x l hl m h0 h1 hn (λy hy=>qC5 T hT n y (by have:=qrw (x:=x) (a:=y) (by rw[hl];exact List.mem_map_of_mem hy);omega) (hlo _ hy)) k r fr H;simp[F950,Fr.Aa];refine (lp _ (λn=>some (.d (I n),false)) _ _ (λi n=>?_) (by simp[gc,Fr.keep,qaH,qaw,qat,PV.refs,qaJ,gcH,qaO,Obj.refs,PV.ren,Obj.ren,Heap.obj,Fr.ren,gh,zzd])).trans ?_
  ·simp
  ·rfl
def qp7(id:Int)(x:Ad):CO:=x.AL==id
def tch(id:Int)(e:Ag):CO:=e.Ai.l.any (qp7 id)
def qyB{α:Type}(p:α->CO)(l:CL α):decide (0<=qkK p l)=l.any p:=by
  unfold qkK;cases h:l.findIdx? p with
  |none=>
    have:=List.findIdx?_eq_none_iff.1 h;have:l.any p=false:=by rw[List.any_eq_false];intro x hx;simpa using this x hx
    rw[this];rfl
  |some j=>
    have:l.any p=true:=by obtain⟨hj,h1,-⟩:=List.findIdx?_eq_some_iff_getElem.1 h;exact List.any_eq_true.2 ⟨_,zzs hj,h1⟩
    rw[this];simp
def qO9{α:Type}(T:Tab)(hT:HV T)(g:Nat)(dv:α->DV)(p:α->CO)(c:PV)(cs:Cz)(H0:CW)(hH:Cl H0)(hc:∀r∈PV.Av (c::cs),r<H0.length)(l:CL α)(hv:∀x∈l,T.ref g (.d (dv x)::c::cs) H0=some (.d (.b (p x)),H0))(s:CO)(hn:l.length<=maxLen) :
    T.ref 708 [.d (.l (K1 3) (l.map dv) s),.f g (c::cs)] H0=some (.d (.b (l.any p)),H0):=by
  rw[qdP T (hT 708 qlY rfl) rfl];have e:=qud T (hT 265 qlr rfl) g dv p c cs H0 hH hc l hv s hn;have e2:=qyB p l;simp[qlY,Fr.Aa,e,e2,qcW,qpc hH]
def qPa(T:Tab)(hT:HV T)(x:Ad)(e:Ag)(id:Int):T.ref 934 [.d x.dv,.p 1 0 0] [some (.box (K1 10) (.d e.dv)),some (.box K0 (.d (I id)))]=some (.d (.b (qp7 id x)),[some (.box (K1 10) (.d e.dv)),some (.box K0 (.d (I id)))]):=by rw[qdP T (hT 934 qmd rfl) rfl];have hH:=qn0 (K1 10) K0 e.dv (I id);simp[qmd,Fr.Aa,qcW,qp7];exact (qja hH [some (.box (K1 3) (.d x.dv))] _)
def qRI(T:Tab)(hT:HV T)(e:Ag)(id:Int)(hn:e.Ai.l.length<=maxLen):T.val 883 [e.dv,I id]=some (.d (.b (tch id e)),false):=by rw[qab T (hT 883 ql3 rfl) rfl];have e1:=qO9 T hT 934 Ad.dv (qp7 id) (.p 1 0 0) [] [some (.box (K1 10) (.d e.dv)),some (.box K0 (.d (I id)))] (qn0 _ _ _ _) (by simp[PV.refs,PV.Av]) e.Ai.l (λa _=>qPa T hT a e id) e.Ai.t hn;simp[ql3,Fr.Aa,e1,tch]
def qev(id frm upto:Int)(_:Nat)(n:Int)(e:Ag):Int:=if (decide (frm<=e.BK)&&(decide (e.BK<=upto)&&tch id e))=true then w64 (n+1)else n
def qiX(j:CL Ag)(id frm upto:Int):Int:=qaU (qev id frm upto) 0 0 j
def qJM(T:Tab)(hT:HV T)(a:AB)(l:CL Ag)(t:CO)(id frm upto amt now low vol:Int)(hn:l.length<=maxLen)(ho:∀e∈l,e.ok){k:KC (PV×CO)}{fr:Fr}{H:CW}(h0:gc [1,2,3,10,12,13,14,16,18,75,76,77] 0 ⟨fr,H⟩=⟨[(77,(.d (I (0:Int)))),(76,(.d (I l.length))),(75,(.d (.l (K1 10) (l.map Ag.dv) t))),(18,(.d (I 0))),(16,(.d (I vol))),(14,(.d (I low))),(13,(.d (I now))),(12,(.d (I frm))),(10,(.p 0 0 0)),(3,(.d (I amt))),(2,(.d (I upto))),(1,(.d (I id)))],[some (.box (K1 7) (.d a.dv))]⟩) :
    kC T.env 0 fr H (.h (.loop [1,2,3,10,12,13,14,16,18,75,76,77] qrb,k))=k (.exit 1) [(78,.d (.b false)),(77,(.d (I (l.length:Int)))),(76,(.d (I l.length))),(75,(.d (.l (K1 10) (l.map Ag.dv) t))),(18,(.d (I (qaU (qev id frm upto) 0 0 l)))),(16,(.d (I vol))),(14,(.d (I low))),(13,(.d (I now))),(12,(.d (I frm))),(10,(.p 0 0 0)),(3,(.d (I amt))),(2,(.d (I upto))),(1,(.d (I id)))] [some (.box (K1 7) (.d a.dv))]:=by
  rw[qcr l (λi (b:Int)=>⟨[(77,(.d (I (i:Int)))),(76,(.d (I l.length))),(75,(.d (.l (K1 10) (l.map Ag.dv) t))),(18,(.d (I b))),(16,(.d (I vol))),(14,(.d (I low))),(13,(.d (I now))),(12,(.d (I frm))),(10,(.p 0 0 0)),(3,(.d (I amt))),(2,(.d (I upto))),(1,(.d (I id)))],[some (.box (K1 7) (.d a.dv))]⟩) (λ_ _=>True) (λi b x c=>c (qev id frm upto i b x)) (λb=>k (.exit 1) [(78,.d (.b false)),(77,(.d (I (l.length:Int)))),(76,(.d (I l.length))),(75,(.d (.l (K1 10) (l.map Ag.dv) t))),(18,(.d (I b))),(16,(.d (I vol))),(14,(.d (I low))),(13,(.d (I now))),(12,(.d (I frm))),(10,(.p 0 0 0)),(3,(.d (I amt))),(2,(.d (I upto))),(1,(.d (I id)))] [some (.box (K1 7) (.d a.dv))]) ?_ ?_ h0 trivial]
  · rw[qii (qev id frm upto) _ _ (λ_ _ _ _=>rfl)]
  · intro B _ b _;simp[qrb]
  · intro B _ i b hi _ c hc;have hm:=mxl;have h1:(i:Int)<l.length:=by omega
    have h3:=wr1 (i:=i) (by omega);have hl:l[i].Ai.l.length<=maxLen:=((ho _ (zzs hi)).2.2.2.2.2.2.2.2.1).1;have hv:=qRI T hT l[i] id hl;obtain⟨q,hq⟩:∃q,tch id l[i]=q:=⟨_,rfl⟩;rw[hq]at hv;simp[qrb,h1,hi];repeat' (refine qbx (λh=>?_) (λh=>?_)<;>(try simp at h)<;>(try simp[h,h3,hv]))
    all_goals first
      | (have e:(qev id frm upto) i b l[i]=w64 (b+1):=by
           simp[qev, *];try (intros;omega)
         rw[e];exact hc _ _ _ trivial (by simp[gc,Fr.keep,qaH,qaw,qat,PV.refs,qaJ,gcH,qaO,Obj.refs,PV.ren,Obj.ren,Heap.obj,Fr.ren,gh,zzd,w64];try rfl))
      | (have e:(qev id frm upto) i b l[i]=b:=by
           simp[qev, *];try (intros;omega)
         rw[e];exact hc _ _ _ trivial (by simp[gc,Fr.keep,qaH,qaw,qat,PV.refs,qaJ,gcH,qaO,Obj.refs,PV.ren,Obj.ren,Heap.obj,Fr.ren,gh,zzd];try rfl))
def qeZ:CE->Int
  |[]=>0
  |x::r=>r.foldl min x
def qx2:∀(r:CE) (i:Nat) (b:Int),qaU (λ_ b x=>min b x) i b r=r.foldl min b
  |[],_,_=>rfl
  |x::r,i,b=>by rw[qaU,qx2 r,List.foldl_cons]
def qJR(T:Tab)(x:Int)(l:CE)(t:CO)(hn:l.length<maxLen){k:KC (PV×CO)}{fr:Fr}{H:CW}(h0:gc [0,3,4] 0 ⟨fr,H⟩=⟨[(4,.d (I 1)),(3,.d (I x)),(0,.d (.l K0 (I x::l.map I) t))],[]⟩) :
    kC T.env 0 fr H (.h (.loop [0,3,4] qrf,k))=k (.exit 0) [(15,.d (.b false)),(4,.d (I (l.length+1))),(3,.d (I (l.foldl min x))),(0,.d (.l K0 (I x::l.map I) t))] []:=by
  have hm:=mxl;rw[qcr l (λi (b:Int)=>⟨[(4,.d (I ((i:Int)+1))),(3,.d (I b)),(0,.d (.l K0 (I x::l.map I) t))],[]⟩) (λ_ _=>True) (λi b y c=>c (min b y)) (λb=>k (.exit 0) [(15,.d (.b false)),(4,.d (I (l.length+1))),(3,.d (I b)),(0,.d (.l K0 (I x::l.map I) t))] []) ?_ ?_ (by simpa using h0) trivial]
  · rw[qii (λ_ b y=>min b y) _ _ (λ_ _ _ _=>rfl),qx2]
  · intro B _ b _;simp[qrf]
  · intro B _ i b hi _ c hc;have h1:(i:Int)+1<l.length+1:=by omega
    have h3:IntKind.i64.wrap ((i:Int)+1+1)=(i:Int)+1+1:=wrI (by omega) (by omega);have h4:(0:Int)<=(i:Int)+1:=by omega
    have h5:((i:Int)+1).toNat=i+1:=by omega
    simp[qrf,h1,hi,h3,h4,↓qwO];exact hc _ _ _ trivial (by simp[gc,Fr.keep,qaH,qaw,qat,PV.refs,gcH,PV.ren,Obj.ren,Heap.obj,Fr.ren,gh])
def qRF(T:Tab)(hT:HV T)(x:Int)(l:CE)(t:CO)(hn:l.length<maxLen):T.val 881 [.l K0 ((x::l).map I) t]=some (.d (I (qeZ (x::l))),false):=by
  rw[qab T (hT 881 F881 rfl) rfl];have h1:¬((l.length:Int)+1<1):=by omega
  have h2:(0:Int)<(l.length:Int)+1:=by omega
  have lp:=λk fr H=>@qJR T x l t hn k fr H;simp[F881,Fr.Aa,h1,h2];refine (lp _ _ _ (by simp[gc,Fr.keep,qaH,qaw,qat,PV.refs,gcH,PV.ren,Obj.ren,Heap.obj,Fr.ren,gh])).trans ?_;simp[qeZ]
structure MvY (Y:Nat->List PV->Heap->Option (PV×Heap)) (σ:Type) (HS:σ->Heap) (m o pj pa:Nat) (j:List Ag) (t:Bool) (acc:Int) (P:σ->Prop) (f:σ->Ag->Ad->σ):Prop where
 len:∀s,(HS s).length=m
 cl:∀s,Cl (HS s)
 oj:∀s J,Heap.obj (HS s++J) pj=some (.box K0 (.d (.l (K1 10) (j.map Ag.dv) t)))
 oa:∀s J,Heap.obj (HS s++J) pa=some (.box K0 (.d (I acc)))
 lo:o<m/\pj<m/\pa<m
 hp:∀s e x,P s->e∈j->x∈e.Ai.l->P (f s e x)
 y:∀s e x,P s->e∈j->x∈e.Ai.l->x.AL=acc->Y o [.d e.dv,.d (I x.Amount)] (HS s++[some (.box (K1 10) (.d e.dv)),some (.box (K1 3) (.d x.dv))])=some (.d (.b true),HS (f s e x)++[some (.box (K1 10) (.d e.dv)),some (.box (K1 3) (.d x.dv))])
def mvL{σ:Type}(acc:Int)(f:σ->Ag->Ad->σ)(e:Ag)(_:Nat)(s:σ)(x:Ad):σ:=if x.AL=acc then f s e x else s
def mvE{σ:Type}(acc:Int)(f:σ->Ag->Ad->σ)(_:Nat)(s:σ)(e:Ag):σ:=qaU (mvL acc f e) 0 s e.Ai.l
section
variable {Y:Nat->Cz->CW->CJ}{σ:Type}{HS:σ->CW}{m o pj pa:Nat}{j:CL Ag}{t:CO}{acc:Int}{P:σ->Prop}{f:σ->Ag->Ad->σ}
def qJB(T:Tab)(h:MvY Y σ HS m o pj pa j t acc P f)(e:Ag)(he:e∈j)(hn:e.Ai.l.length<=maxLen)(oi:Nat)(s0:σ)(hs0:P s0){k:KC (PV×CW)}{fr:Fr}{H:CW}
  (h0:gc [0,2,5,8,9,10,15,16,17] m ⟨fr,H⟩=⟨[(17,.d (I 0)),(16,.d (I e.Ai.l.length)),(15,.d (.l (K1 3) (e.Ai.l.map Ad.dv) e.Ai.t)),(10,.d (I oi)),(9,.d (I j.length)),(8,.d (.l (K1 10) (j.map Ag.dv) t)),(5,.p m 0 0),(2,.p pa 0 0),(0,.h o)],HS s0++[some (.box (K1 10) (.d e.dv))]⟩) :
  kC (T.Bb Y) m fr H (.h (.loop [0,2,5,8,9,10,15,16,17] qq5,k))=k (.exit 2) [(18,.d (.b false)),(17,.d (I e.Ai.l.length)),(16,.d (I e.Ai.l.length)),(15,.d (.l (K1 3) (e.Ai.l.map Ad.dv) e.Ai.t)),(10,.d (I oi)),(9,.d (I j.length)),(8,.d (.l (K1 10) (j.map Ag.dv) t)),(5,.p m 0 0),(2,.p pa 0 0),(0,.h o)] (HS (qaU (mvL acc f e) 0 s0 e.Ai.l)++[some (.box (K1 10) (.d e.dv))]):=by
 have hm:=mxl;rw[qcr e.Ai.l (λi (s:σ)=>⟨[(17,.d (I i)),(16,.d (I e.Ai.l.length)),(15,.d (.l (K1 3) (e.Ai.l.map Ad.dv) e.Ai.t)),(10,.d (I oi)),(9,.d (I j.length)),(8,.d (.l (K1 10) (j.map Ag.dv) t)),(5,.p m 0 0),(2,.p pa 0 0),(0,.h o)],HS s++[some (.box (K1 10) (.d e.dv))]⟩) (λ_ s=>P s) (λi s x c=>c (mvL acc f e i s x)) (λs=>k (.exit 2) [(18,.d (.b false)),(17,.d (I e.Ai.l.length)),(16,.d (I e.Ai.l.length)),(15,.d (.l (K1 3) (e.Ai.l.map Ad.dv) e.Ai.t)),(10,.d (I oi)),(9,.d (I j.length)),(8,.d (.l (K1 10) (j.map Ag.dv) t)),(5,.p m 0 0),(2,.p pa 0 0),(0,.h o)] (HS s++[some (.box (K1 10) (.d e.dv))])) ?_ ?_ h0 hs0]
 ·rw[qii (mvL acc f e) _ _ (λ_ _ _ _=>rfl)]
 ·intro B _ s _;simp[qq5]
 ·intro B _ i s hi hs c hc;have h1:(i:Int)<e.Ai.l.length:=by omega
  have h3:=wr1 (i:=i) (by omega);have hx:e.Ai.l[i]∈e.Ai.l:=zzs hi;have hl:=h.len s;have hoa:=h.oa s;have ho0:∀J,Heap.obj (HS s++J) m=Heap.obj J 0:=λJ=>by rw[<-hl];exact qk3 _ _
  have ho1:∀J,Heap.obj (HS s++J) (m+1)=Heap.obj J 1:=λJ=>by rw[<-hl];exact qno _ _ 1
  have hp1:∀J v,Heap.put (HS s++J) (m+1) v=HS s++Heap.put J 1 v:=λJ v=>by rw[<-hl];exact qnz _ _ _ 1
  simp[qq5,h1,hi,hl,hoa,ho1,hp1];refine qbx (λg=>?_) (λg=>?_)
  ·have g':e.Ai.l[i].AL=acc:=by simpa using g
   have hy:=h.y s e e.Ai.l[i] hs he hx g';have hs':=h.hp s e e.Ai.l[i] hs he hx;have hl':=h.len (f s e e.Ai.l[i]);simp[g,h3,hl,ho0,ho1,hp1,hy,↓qEM,qFP];have e1:mvL acc f e i s e.Ai.l[i]=f s e e.Ai.l[i]:=by simp[mvL,g']
   rw[e1];refine hc _ _ _ hs' ?_;rw[<-hl',qst _ (h.cl _) rfl (by simp[Fr.keep,qaw,gh,PV.refs]) (by simp[Fr.keep,qaw,gh,PV.refs,hl'];have:=h.lo;omega) (by simp[Fr.keep,qaw,gh,PV.refs,hl'])];simp[Fr.keep,gh,hl']
  ·have g':¬e.Ai.l[i].AL=acc:=by simpa using g
   simp[g,h3,hl,hp1];have e1:mvL acc f e i s e.Ai.l[i]=s:=by simp[mvL,g']
   rw[e1];refine hc _ _ _ hs ?_;rw[<-hl,qst _ (h.cl _) rfl (by simp[Fr.keep,qaw,gh,PV.refs]) (by simp[Fr.keep,qaw,gh,PV.refs,hl];have:=h.lo;omega) (by simp[Fr.keep,qaw,gh,PV.refs,hl])];simp[Fr.keep,gh,hl]
def qKz(h:MvY Y σ HS m o pj pa j t acc P f){e:Ag}(he:e∈j){s:σ}(hs:P s):P (qaU (mvL acc f e) 0 s e.Ai.l):=by
 have key:∀(l:CL Ad) (i:Nat) (s:σ),P s->(∀x∈l,x∈e.Ai.l)->P (qaU (mvL acc f e) i s l):=by
  intro l;induction l with
  |nil=>intro i s hs _;exact hs
  |cons x l ih=>
   intro i s hs hl;rw[qaU];refine ih _ _ ?_ λy hy=>hl y (zzi _ hy);unfold mvL;split
   ·exact h.hp s e x hs he (hl x (zzr ..))
   ·exact hs
 exact key _ _ _ hs λ_ hx=>hx
def qJC(T:Tab)(h:MvY Y σ HS m o pj pa j t acc P f)(hn:j.length<=maxLen)(ho:∀e∈j,e.Ai.l.length<=maxLen)(s0:σ)(hs0:P s0){k:KC (PV×CW)}{fr:Fr}{H:CW}
  (h0:gc [0,2,8,9,10] m ⟨fr,H⟩=⟨[(10,.d (I 0)),(9,.d (I j.length)),(8,.d (.l (K1 10) (j.map Ag.dv) t)),(2,.p pa 0 0),(0,.h o)],HS s0⟩) :
  kC (T.Bb Y) m fr H (.h (.loop [0,2,8,9,10] qoe,k))=k (.exit 0) [(11,.d (.b false)),(10,.d (I j.length)),(9,.d (I j.length)),(8,.d (.l (K1 10) (j.map Ag.dv) t)),(2,.p pa 0 0),(0,.h o)] (HS (qaU (mvE acc f) 0 s0 j)):=by
 have hm:=mxl;rw[qcr j (λi (s:σ)=>⟨[(10,.d (I i)),(9,.d (I j.length)),(8,.d (.l (K1 10) (j.map Ag.dv) t)),(2,.p pa 0 0),(0,.h o)],HS s⟩) (λ_ s=>P s) (λi s x c=>c (mvE acc f i s x)) (λs=>k (.exit 0) [(11,.d (.b false)),(10,.d (I j.length)),(9,.d (I j.length)),(8,.d (.l (K1 10) (j.map Ag.dv) t)),(2,.p pa 0 0),(0,.h o)] (HS s)) ?_ ?_ h0 hs0]
 ·rw[qii (mvE acc f) _ _ (λ_ _ _ _=>rfl)]
 ·intro B _ s _;simp[qoe]
 ·intro B _ i s hi hs c hc;have h1:(i:Int)<j.length:=by omega
  have h3:=wr1 (i:=i) (by omega);have he:j[i]∈j:=zzs hi;have hl:=h.len s;have ho0:∀J,Heap.obj (HS s++J) m=Heap.obj J 0:=λJ=>by rw[<-hl];exact qk3 _ _
  have hp0:∀J v,Heap.put (HS s++J) m v=HS s++Heap.put J 0 v:=λJ v=>by rw[<-hl];exact qqf _ _ _
  have lp:=λk fr H=>@qJB Y σ HS m o pj pa j t acc P f T h j[i] he (ho _ he) i s hs k fr H;simp[qoe,h1,hi,hl,ho0,hp0];rw[lp]
  ·simp[h3];have hs':=qKz h he hs;have hl':=h.len (qaU (mvL acc f j[i]) 0 s j[i].Ai.l);refine (hc _ _ _ hs' ?_).trans rfl;rw[<-hl',qyd _ (h.cl _) (by simp[Fr.keep,qaw,gh,PV.refs,hl'];have:=h.lo;omega)];simp[Fr.keep,gh]
  ·rw[<-hl,qst _ (h.cl _) rfl (by simp[Fr.keep,qaw,gh,PV.refs]) (by simp[Fr.keep,qaw,gh,PV.refs,hl];have:=h.lo;omega) (by simp[Fr.keep,qaw,gh,PV.refs,hl])];simp[Fr.keep,gh,hl]
def qsP(T:Tab)(hT:HU T)(h:MvY Y σ HS m o pj pa j t acc P f)(hn:j.length<=maxLen)(ho:∀e∈j,e.Ai.l.length<=maxLen)(s0:σ)(hs0:P s0) :
  T.it Y 59 [.h o,.p pj 0 0,.p pa 0 0] (HS s0)=some (.t [],HS (qaU (mvE acc f) 0 s0 j)):=by
 rw[qHc T (hT 59 F59 rfl) Y rfl];have lp:=λk fr H=>@qJC Y σ HS m o pj pa j t acc P f T h hn ho s0 hs0 k fr H;have hl:=h.len s0;have hoj:Heap.obj (HS s0) pj=some (.box K0 (.d (.l (K1 10) (j.map Ag.dv) t))):=by have:=h.oj s0 [];rwa [List.append_nil]at this
 simp[F59,Fr.Aa,hl,hoj];rw[lp]
 ·simp[qF3];rw[hl,<-h.len (qaU (mvE acc f) 0 s0 j)];exact qkE (h.cl _) (by simp[qbi,PV.refs,PV.Av])
 ·rw[<-hl,qmV _ (h.cl _) (by simp[Fr.keep,qaw,gh,PV.refs,hl];have:=h.lo;omega)];simp[Fr.keep,gh]
end
def qO6(T:Tab)(hT:HU T)(j:CL Ag)(t:CO)(acc:Int)(k0:K)(v0:DV):T.ref 50 [.d (.l (K1 10) (j.map Ag.dv) t),.d (I acc)] [some (.box k0 (.d v0))]=some (.f 59 [.p 1 0 0,.p 2 0 0],[some (.box k0 (.d v0)),some (.box K0 (.d (.l (K1 10) (j.map Ag.dv) t))),some (.box K0 (.d (I acc)))]):=by rw[qdP T (hT 50 F50 rfl) rfl];simp[F50,Fr.Aa,qcW,gcV,qaH,qat,qaO,Obj.refs,PV.refs,PV.Av,qaJ,gcH,PV.ren,PV.Bp,Obj.ren,Heap.obj,zzd]
def qkH(j:CL Ag)(t:CO)(acc:Int)(s:Int):CW:=[some (.box K0 (.d (I s))),some (.box K0 (.d (.l (K1 10) (j.map Ag.dv) t))),some (.box K0 (.d (I acc))),some (.lp 0 none),some .df]
def fOf(s:Int)(_:Ag)(x:Ad):Int:=w64 (s-x.Amount)
def ofP(j:CL Ag)(acc:Int):Int:=qaU (mvE acc fOf) 0 0 j
def qKA(T:Tab)(_hT:HU T)(j:CL Ag)(t:CO)(acc:Int):MvY (qih T.env qq9 qra [(5,.p 0 0 0)] 3 [11,12]) Int (qkH j t acc) 5 3 1 2 j t acc (λ_=>True) fOf where
 len _:=rfl
 cl _:=by intro r h;simp[qkH,qat,qaO,Obj.refs,PV.refs]at h
 oj _ _:=rfl
 oa _ _:=rfl
 lo:=⟨by decide,by decide,by decide⟩
 hp _ _ _ _ _ _:=trivial
 y s e x _ _ _ _:=by rw[qui rfl rfl];simp[qq9,qra,qkH,qdR];exact qkE (H:=qkH j t acc (fOf s e x)++[some (.box (K1 10) (.d e.dv)),some (.box (K1 3) (.d x.dv))]) (by intro r h;simp[qkH,qat,qaO,Obj.refs,PV.refs]at h) (v:=.d (.b true)) (by simp[PV.refs])
def qRq(T:Tab)(hT:HU T)(l:CL Ag)(t:CO)(acc:Int)(hn:l.length<=maxLen)(ho:∀e∈l,e.Ai.l.length<=maxLen):T.val 715 [.l (K1 10) (l.map Ag.dv) t,I acc]=some (.d (I (ofP l acc)),false):=by rw[qab T (hT 715 qlZ rfl) rfl];have e:=qO6 T hT l t acc K0 (I 0);have e2:=qsP T hT (qKA T hT l t acc) hn ho 0 trivial;simp[qlZ,Fr.Aa,e,↓qsQ,↓quj,qsa,Fr.only];refine (congrArg (λz=>bo z _) e2).trans ?_;simp[qla,qkH,fin,Bj];rfl
def qqH(a b:Int):w64 (w64 a+b)=w64 (a+b):=by unfold w64;rw[IntKind.wrap_i64,IntKind.wrap_i64,IntKind.wrap_i64];omega
def qR6(a b:Int):w64 (a+w64 b)=w64 (a+b):=by rw[Int.add_comm,qqH,Int.add_comm]
def qDb(a:Int):w64 (w64 a)=w64 a:=by have:=qqH a 0;simpa using this
def qtA(acc s:Int):∀(l:CL Ad) (i:Nat) (d:Int),qaU (qdr acc) i (w64 (s+d)) l=w64 (s+qaU (qdr acc) i (w64 d) l)
 |[],i,d=>by simp only[qaU];rw[qR6]
 |x::l,i,d=>by
  simp only[qaU];by_cases h:(x.AL==acc)=true
  ·have e1:qdr acc i (w64 (s+d)) x=w64 (s+(d-x.Amount)):=by simp only[qdr,h,if_true,Int.sub_eq_add_neg,qqH,Int.add_assoc]
   have e2:qdr acc i (w64 d) x=w64 (d-x.Amount):=by simp only[qdr,h,if_true,Int.sub_eq_add_neg,qqH]
   rw[e1,e2,qtA acc s l (i+1)]
  ·have e1:qdr acc i (w64 (s+d)) x=w64 (s+d):=by simp only[qdr,if_neg h]
   have e2:qdr acc i (w64 d) x=w64 d:=by simp only[qdr,if_neg h]
   rw[e1,e2,qtA acc s l (i+1)]
def qAD(acc:Int)(e:Ag):∀(l:CL Ad) (i:Nat) (s:Int),qaU (mvL acc fOf e) i s l=qaU (qdr acc) i s l
 |[],_,_=>rfl
 |x::l,i,s=>by
  have:mvL acc fOf e i s x=qdr acc i s x:=by by_cases h:x.AL=acc<;>simp[mvL,qdr,fOf,h]
  rw[qaU,qaU,this,qAD acc e l]
def qAT(acc:Int):∀(l:CL Ag) (i:Nat) (n:Int),w64 n=n->qaU (mvE acc fOf) i n l=qaU (qo1 acc) i n l
 |[],_,_,_=>rfl
 |e::l,i,n,h=>by
  have e1:mvE acc fOf i n e=qo1 acc i n e:=by unfold mvE qo1 qAx;rw[qAD];have:=qtA acc n e.Ai.l 0 0;rw[Int.add_zero,h,show w64 0=0 from rfl]at this;exact this
  rw[qaU,qaU,e1];exact qAT acc l (i+1) _ (qDb _)
def qKM(l:CL Ag)(acc:Int):ofP l acc=ofR l acc:=qAT acc l 0 0 rfl
def qO7(T:Tab)(hT:HU T)(j:CL Ag)(t:CO)(acc:Int)(k0 k1 k2 k3:K)(v0 v1 v2 v3:DV):T.ref 50 [.d (.l (K1 10) (j.map Ag.dv) t),.d (I acc)] [some (.box k0 (.d v0)),some (.box k1 (.d v1)),some (.box k2 (.d v2)),some (.box k3 (.d v3))]=some (.f 59 [.p 4 0 0,.p 5 0 0],[some (.box k0 (.d v0)),some (.box k1 (.d v1)),some (.box k2 (.d v2)),some (.box k3 (.d v3)),some (.box K0 (.d (.l (K1 10) (j.map Ag.dv) t))),some (.box K0 (.d (I acc)))]):=by rw[qdP T (hT 50 F50 rfl) rfl];simp[F50,Fr.Aa,qcW,gcV,qaH,qat,qaO,Obj.refs,PV.refs,PV.Av,qaJ,gcH,PV.ren,PV.Bp,Obj.ren,Heap.obj,zzd]
abbrev DC:=Int×Int
def fTo(frm upto:Int)(s:DC)(e:Ag)(x:Ad):DC:=if e.BK<frm\/upto<e.BK then s else if 0<x.Amount then (w64 (s.1+x.Amount),s.2)else (s.1,w64 (s.2-x.Amount))
def qeT(frm upto:Int)(j:CL Ag)(t:CO)(acc:Int)(s:DC):CW:=[some (.box K0 (.d (I frm))),some (.box K0 (.d (I upto))),some (.box K0 (.d (I s.1))),some (.box K0 (.d (I s.2))),some (.box K0 (.d (.l (K1 10) (j.map Ag.dv) t))),some (.box K0 (.d (I acc))),some (.lp 0 none),some .df]
def qKB(T:Tab)(_hT:HU T)(frm upto:Int)(j:CL Ag)(t:CO)(acc:Int):MvY (qih T.env qrg qrh [(11,.p 3 0 0),(10,.p 2 0 0),(7,.p 1 0 0),(6,.p 0 0 0)] 6 [17,18]) DC (qeT frm upto j t acc) 8 6 4 5 j t acc (λ_=>True) (fTo frm upto) where
  len _:=rfl
  cl _:=by intro r h;simp[qeT,qat,qaO,Obj.refs,PV.refs]at h
  oj _ _:=rfl
  oa _ _:=rfl
  lo:=⟨by decide,by decide,by decide⟩
  hp _ _ _ _ _ _:=trivial
  y s e x _ _ _ _:=by
    rw[qui rfl rfl];simp[qrg,qrh,qeT,qdR];repeat' (refine qbx (λh=>?_) (λh=>?_)<;>(try simp at h)<;>(try simp[h]))
    all_goals first
      | (have ef:fTo frm upto s e x=s:=by rw[fTo,if_pos (by omega)]
         rw[ef];exact qkE (H:=qeT frm upto j t acc s++[some (.box (K1 10) (.d e.dv)),some (.box (K1 3) (.d x.dv))]) (by intro r h;simp[qeT,qat,qaO,Obj.refs,PV.refs]at h) (v:=.d (.b true)) (by simp[PV.refs]))
      | (have ef:fTo frm upto s e x=(w64 (s.1+x.Amount),s.2):=by rw[fTo,if_neg (by omega),if_pos (by omega)]
         rw[ef];exact qkE (H:=qeT frm upto j t acc (w64 (s.1+x.Amount),s.2)++[some (.box (K1 10) (.d e.dv)),some (.box (K1 3) (.d x.dv))]) (by intro r h;simp[qeT,qat,qaO,Obj.refs,PV.refs]at h) (v:=.d (.b true)) (by simp[PV.refs]))
      | (have ef:fTo frm upto s e x=(s.1,w64 (s.2-x.Amount)):=by rw[fTo,if_neg (by omega),if_neg (by omega)]
         rw[ef];exact qkE (H:=qeT frm upto j t acc (s.1,w64 (s.2-x.Amount))++[some (.box (K1 10) (.d e.dv)),some (.box (K1 3) (.d x.dv))]) (by intro r h;simp[qeT,qat,qaO,Obj.refs,PV.refs]at h) (v:=.d (.b true)) (by simp[PV.refs]))
def qRG(T:Tab)(hT:HU T)(hV:HV T)(l:CL Ag)(t:CO)(acc frm upto:Int)(hn:l.length<=maxLen)(ho:∀e∈l,e.Ai.l.length<=maxLen):T.val 882 [.l (K1 10) (l.map Ag.dv) t,I acc,I frm,I upto]=some (.t [.d (I (qaU (mvE acc (fTo frm upto)) 0 (0,0) l).1),.d (I (qaU (mvE acc (fTo frm upto)) 0 (0,0) l).2)],false):=by rw[qab T (hV 882 ql2 rfl) rfl];have e:=qO7 T hT l t acc K0 K0 K0 K0 (I frm) (I upto) (I 0) (I 0);have e2:=qsP T hT (qKB T hT frm upto l t acc) hn ho (0,0) trivial;simp[ql2,Fr.Aa,e,↓qsQ,↓quj,qsa,Fr.only];refine (congrArg (λz=>bo z _) e2).trans ?_;simp[qla,qeT,fin,Bj,↓qbm,↓qbn,↓qbg,↓qbd,qbh,↓qbf,↓qbe,qa3,Ar,Az,qas,qaP,chg,qaY,runs,qaM,qaX,PV.refs,IOp.okD,Nat.testBit];try rfl
def qjI(j:CL Ag)(acc frm upto:Int):DC:=qaU (mvE acc (fTo frm upto)) 0 (0,0) j
def qRH(T:Tab)(hT:HU T)(hV:HV T)(l:CL Ag)(t:CO)(acc frm upto:Int)(hn:l.length<=maxLen)(ho:∀e∈l,e.Ai.l.length<=maxLen):T.val 882 [.l (K1 10) (l.map Ag.dv) t,I acc,I frm,I upto]=some (.t [.d (I (qjI l acc frm upto).1),.d (I (qjI l acc frm upto).2)],false):=qRG T hT hV l t acc frm upto hn ho
def qdN(s:Int):CE->CE
 |[]=>[]
 |x::r=>w64 (s+x)::qdN (w64 (s+x)) r
def qqd:∀(l:CE) (s:Int),(qdN s l).length=l.length
 |[],_=>rfl
 |x::l,s=>by simp[qdN,qqd l]
def psP(s:Int):Nat->CE->CE
 |_,[]=>[]
 |0,l=>l
 |i+1,x::r=>w64 (s+x)::psP (w64 (s+x)) i r
def qqc:∀(l:CE) (s:Int) (i:Nat),(psP s i l).length=l.length
 |[],s,i=>by cases i<;>rfl
 |x::l,s,0=>rfl
 |x::l,s,i+1=>by simp[psP,qqc l]
def qBh:∀(l:CE) (s:Int) (i:Nat),l.length<=i->psP s i l=qdN s l
 |[],s,i,_=>by cases i<;>rfl
 |x::l,s,0,h=>by simp at h
 |x::l,s,i+1,h=>by simp only[psP,qdN];rw[qBh l _ i (by simpa using h)]
def qBg(l:CE)(s:Int):psP s 0 l=l:=by cases l<;>rfl
def qBi:∀(l:CE) (s:Int) (i:Nat) (h:i+1<(psP s (i+1) l).length),(psP s (i+1) l).set (i+1) (w64 ((psP s (i+1) l)[i+1]+(psP s (i+1) l)[i]))=psP s (i+2) l
 |[],s,i,h=>by simp[psP]at h
 |[x],s,i,h=>by simp[qqc]at h
 |x::y::l,s,0,h=>by simp only[psP,List.set_cons_succ,List.set_cons_zero,zzG,List.getElem_cons_zero,qBg];rw[show w64 (y+w64 (s+x))=w64 (w64 (s+x)+y)by rw[Int.add_comm]]
 |x::y::l,s,i+1,h=>by have ih:=qBi (y::l) (w64 (s+x)) i (by rw[qqc]at h⊢;simp at h⊢;omega);have a:psP s (i+1+1) (x::y::l)=w64 (s+x)::psP (w64 (s+x)) (i+1) (y::l):=rfl;have b:psP s (i+1+2) (x::y::l)=w64 (s+x)::psP (w64 (s+x)) (i+2) (y::l):=rfl;simp only[a,b,List.set_cons_succ,zzG];exact congrArg _ ih
def qOA(l:CE)(h:∀x∈l,w64 x=x):psP 0 1 l=l:=by
 cases l with
 |nil=>rfl
 |cons x r=>simp only[psP,Int.zero_add,qBg];rw[h x (zzr ..)]
def dOf(frm v:Int):Nat:=(max frm v-frm).toNat
def fDa(frm upto:Int)(es:CE)(e:Ag)(x:Ad):CE:=if e.Value<=upto then (match es[dOf frm e.Value]? with|some v=>es.set (dOf frm e.Value) (w64 (v-x.Amount))|none=>es)else es
def qsi{frm upto:Int}{es:CE}{e:Ag}{x:Ad}:(fDa frm upto es e x).length=es.length:=by
 unfold fDa;split
 ·split
  ·simp
  ·rfl
 ·rfl
def qeb(frm upto:Int)(j:CL Ag)(t:CO)(acc:Int)(n:Nat)(es:CE):CW:=[some (.box K0 (.d (I frm))),some (.box K0 (.d (I upto))),some (.sl K0 0 (es.map I)),some (.box K0 (.r 2 K0 0 n false)),some (.box K0 (.d (.l (K1 10) (j.map Ag.dv) t))),some (.box K0 (.d (I acc))),some (.lp 0 none),some .df]
def qO8(T:Tab)(hT:HU T)(j:CL Ag)(t:CO)(acc frm upto:Int)(n:Nat)(es:Cy):T.ref 50 [.d (.l (K1 10) (j.map Ag.dv) t),.d (I acc)] [some (.box K0 (.d (I frm))),some (.box K0 (.d (I upto))),some (.sl K0 0 es),some (.box K0 (.r 2 K0 0 n false))]=some (.f 59 [.p 4 0 0,.p 5 0 0],[some (.box K0 (.d (I frm))),some (.box K0 (.d (I upto))),some (.sl K0 0 es),some (.box K0 (.r 2 K0 0 n false)),some (.box K0 (.d (.l (K1 10) (j.map Ag.dv) t))),some (.box K0 (.d (I acc)))]):=by rw[qdP T (hT 50 F50 rfl) rfl];simp[F50,Fr.Aa,qcW,gcV,qaH,qat,qaO,Obj.refs,PV.refs,PV.Av,qaJ,gcH,PV.ren,PV.Bp,Obj.ren,Heap.obj,zzd]
def qKy(T:Tab)(_hT:HU T)(frm upto:Int)(j:CL Ag)(t:CO)(acc:Int)(n:Nat)(h1:qaZ frm=true)(h2:qaZ upto=true)(h3:frm<=upto)(hn:(n:Int)=upto-frm+1):MvY (qih T.env qoi qoj [(9,.p 3 0 0),(7,.p 1 0 0),(6,.p 0 0 0)] 6 [40,41]) (CE) (qeb frm upto j t acc n) 8 6 4 5 j t acc (λes=>es.length=n) (fDa frm upto) where
 len _:=rfl
 cl _:=by intro r h;simp[qeb,qat,qaO,Obj.refs,PV.refs]at h;subst h;simp[qeb]
 oj _ _:=rfl
 oa _ _:=rfl
 lo:=⟨by decide,by decide,by decide⟩
 hp _ _ _ h _ _:=by rw[qsi];exact h
 y es e x hl _ _ _:=by
  simp only[qaZ,zzf,zzq]at h1 h2;rw[qui rfl rfl];by_cases hv:e.Value<=upto
  ·obtain⟨m,hm⟩:∃m,max frm e.Value=m:=⟨_,rfl⟩;have hm1:frm<=m/\m<=upto:=by omega
   obtain⟨k,hk⟩:∃k,dOf frm e.Value=k:=⟨_,rfl⟩;have hk1:(k:Int)=m-frm:=by rw[<-hk,dOf,hm];omega
   have w:IntKind.i64.wrap (m-frm)=(k:Int):=(wrI (by omega) (by omega)).trans hk1.symm;have hk':(k:Int)<n:=by omega
   have hke:k<es.length:=by omega
   have hg:es[k]? = some es[k]:=zze hke;have ef:fDa frm upto es e x=es.set k (w64 (es[k]-x.Amount)):=by rw[fDa,if_pos hv,hk,hg]
   rw[ef];simp[qoi,qoj,qeb,qdR,hv,w,↓qcu,-qdh,↓qlf,↓qnM,↓qle,↓qcS,hm,hl,hk',hg,↓qfW,zzj];have ms:∀v,(es.map I).set k (I v)=(es.set k v).map I:=λv=>List.map_set.symm;rw[ms,ms];exact qja (H:=qeb frm upto j t acc n (es.set k (w64 (es[k]-x.Amount)))++[some (.box (K1 10) (.d e.dv)),some (.box (K1 3) (.d x.dv))]) (by intro r h;simp[qeb,qat,qaO,Obj.refs,PV.refs]at h;subst h;simp[qeb]) [some (.box (K1 10) (.d e.dv))] (.b true)
  ·have ef:fDa frm upto es e x=es:=by rw[fDa,if_neg hv]
   rw[ef];simp[qoi,qoj,qeb,qdR,hv];exact qja (H:=qeb frm upto j t acc n es++[some (.box (K1 10) (.d e.dv)),some (.box (K1 3) (.d x.dv))]) (by intro r h;simp[qeb,qat,qaO,Obj.refs,PV.refs]at h;subst h;simp[qeb]) [some (.box (K1 10) (.d e.dv))] (.b true)
def qJQ(T:Tab)(es:CE)(n:Nat)(hl:es.length=n)(hn:0<n)(hn2:n<5000)(hz:∀x∈es,w64 x=x){k:KC (PV×CO)}{fr:Fr}{H:CW}(h0:gc [9,12] 0 ⟨fr,H⟩=⟨[(100041,.g (.h 0)),(12,.d (I 1)),(9,.p 1 0 0)],[some .df,some (.box K0 (.r 2 K0 0 n false)),some (.sl K0 0 (es.map I))]⟩) :
  kC T.env 0 fr H (.h (.loop [9,12] qok,k))=k (.exit 2) [(100041,.g (.h 0)),(61,.d (.b false)),(12,.d (I n)),(9,.p 1 0 0)] [some .df,some (.box K0 (.r 2 K0 0 n false)),some (.sl K0 0 ((qdN 0 es).map I))]:=by
 refine qh9 (λs:Nat×CE=>⟨[(100041,.g (.h 0)),(12,.d (I s.1)),(9,.p 1 0 0)],[some .df,some (.box K0 (.r 2 K0 0 n false)),some (.sl K0 0 (s.2.map I))]⟩) (λi=>(i+1,psP 0 (i+1) es)) (n-1) ?_ ?_ (by rw[h0,qOA _ hz];rfl)
 ·intro B _;have e:n-1+1=n:=by omega
  have e2:psP 0 n es=qdN 0 es:=qBh _ _ _ (by omega);have e3:(qdN 0 es).length=n:=by rw[qqd,hl]
  simp only[e,e2];simp[qok,e3]
 ·intro B _ i hi c hc;have hlen:(psP 0 (i+1) es).length=n:=by rw[qqc,hl]
  have hst:=qBi es 0 i (by omega);obtain⟨fs,hfs⟩:∃fs,psP 0 (i+1) es=fs:=⟨_,rfl⟩;have g5':i+1<fs.length:=by rw[<-hfs];omega
  have hst':psP 0 (i+1+1) es=fs.set (i+1) (w64 (fs[i+1]+fs[i])):=by subst hfs;exact hst.symm
  simp only[hfs]at hlen;clear hst;simp only[hst']at hc;simp only[hfs];have g1:(i:Int)+1<n:=by omega
  have g2:i+1<n:=by omega
  have g3:i<n:=by omega
  have g4:(i:Int)<n:=by omega
  have g5:i+1<fs.length:=by omega
  have g6:i<fs.length:=by omega
  have g7:(0:Int)<=(i:Int)+1:=by omega
  have g8:((i:Int)+1).toNat=i+1:=by omega
  have w1:IntKind.i64.wrap ((i:Int)+1-1)=i:=by rw[wrI (by omega) (by omega)];omega
  have w1':IntKind.i64.wrap (i:Int)=i:=wrI (by omega) (by omega);have w2:IntKind.i64.wrap ((i:Int)+1+1)=(i:Int)+1+1:=wrI (by omega) (by omega);simp[qok,↓qbm,↓qbn,↓qbg,↓qbz,↓qbd,qbh,↓qbf,↓qbe,↓qby,↓qbj,↓qb2,qa3,Ar,Az,qas,qaP,chg,qaY,runs,qaM,qaX,PV.refs,IOp.okD,Nat.testBit,hlen,g1,g2,g3,g4,g7,w1',w2,↓qcu,-qdh,↓qlf,↓qle,↓qcS];refine hc _ _ ?_;rw[show ∀v,(fs.map I).set (i+1) (DV.i .i64 v)=(fs.set (i+1) v).map I from λv=>List.map_set.symm];simp[gc,Fr.keep,qaH,qaw,qat,PV.refs,qaJ,gcH,qaO,Obj.refs,PV.ren,Obj.ren,Heap.obj,Fr.ren,gh,zzd,w64]
def qnp(frm upto:Int):CO:=qaZ frm&&(qaZ upto&&(decide (frm<=upto)&&decide (upto-frm<4000)))
def zer(frm upto:Int):CE:=List.replicate (upto-frm+1).toNat 0
def qi1(j:CL Ag)(acc frm upto:Int):CE:=if qnp frm upto=true then qdN 0 (qaU (mvE acc (fDa frm upto)) 0 (zer frm upto) j)else []
def qFY{frm upto:Int}{es:CE}{e:Ag}{x:Ad}(h:∀y∈es,w64 y=y):∀y∈fDa frm upto es e x,w64 y=y:=by
 intro y hy;unfold fDa at hy;split at hy
 ·split at hy
  ·rcases List.mem_or_eq_of_mem_set hy with hy|rfl
   ·exact h y hy
   ·exact qDb _
  ·exact h y hy
 ·exact h y hy
def qpV{acc frm upto:Int}(P:CE->Prop)(hP:∀es e x,P es->P (fDa frm upto es e x)):∀(j:CL Ag) (i:Nat) (es:CE),P es->P (qaU (mvE acc (fDa frm upto)) i es j)
 |[],_,_,h=>h
 |e::j,i,es,h=>by
  rw[qaU];refine qpV P hP j _ _ ?_;have:∀(l:CL Ad) (i:Nat) (es:CE),P es->P (qaU (mvL acc (fDa frm upto) e) i es l):=by
   intro l;induction l with
   |nil=>intro _ _ h;exact h
   |cons x l ih=>
    intro i es h;rw[qaU];refine ih _ _ ?_;unfold mvL;split
    ·exact hP _ _ _ h
    ·exact h
  exact this _ _ _ h
def qRD(T:Tab)(hT:HU T)(hV:HV T)(j:CL Ag)(t:CO)(acc frm upto:Int)(hn:j.length<=maxLen)(ho:∀e∈j,e.Ai.l.length<=maxLen):T.val 880 [.l (K1 10) (j.map Ag.dv) t,I acc,I frm,I upto]=some (.d (.l K0 ((qi1 j acc frm upto).map I) false),true):=by
 rw[qab T (hV 880 qj1 rfl) rfl];have e1:=qnU T hV frm;have e2:=qnU T hV upto;by_cases hok:qnp frm upto=true
 ·have hd:qi1 j acc frm upto=qdN 0 (qaU (mvE acc (fDa frm upto)) 0 (zer frm upto) j):=by rw[qi1,if_pos hok]
  rw[hd];simp only[qnp,zzf,zzq]at hok;obtain⟨h1,h2,h3,h4⟩:=hok;rw[h1]at e1;rw[h2]at e2;obtain⟨h1a,h1b⟩:0<=frm/\frm<=73048:=by simpa[qaZ]using h1
  obtain⟨h2a,h2b⟩:0<=upto/\upto<=73048:=by simpa[qaZ]using h2
  obtain⟨n,hnn⟩:∃n:Nat,(n:Int)=upto-frm+1:=⟨(upto-frm+1).toNat,by omega⟩;have w1:IntKind.i64.wrap (upto-frm)=upto-frm:=wrI (by omega) (by omega);have w2:IntKind.i64.wrap (upto-frm+1)=(n:Int):=by rw[wrI (by omega) (by omega)];omega
  have g1:¬upto<frm:=by omega
  have g2:¬(4000<=upto-frm):=by omega
  have g3:(n:Int)*8<=140737488355328:=by omega
  have hz:(upto-frm+1).toNat=n:=by omega
  have e3:=qO8 T hT j t acc frm upto n (List.replicate n (I 0));have e4:=qsP T hT (qKy T hT frm upto j t acc n h1 h2 h3 hnn) hn ho (List.replicate n 0) (by simp);have hS:zer frm upto=List.replicate n 0:=by rw[zer,hz]
  rw[hS];have hlen:(qaU (mvE acc (fDa frm upto)) 0 (List.replicate n 0) j).length=n:=qpV (λes=>es.length=n) (λes e x h=>by rw[qsi];exact h) j 0 _ (by simp);have hnr:∀y∈qaU (mvE acc (fDa frm upto)) 0 (List.replicate n 0) j,w64 y=y:=qpV (λes=>∀y∈es,w64 y=y) (λes e x h=>qFY h) j 0 _ (λy hy=>by rw[(List.mem_replicate.1 hy).2];rfl);generalize qaU (mvE acc (fDa frm upto)) 0 (List.replicate n 0) j=fs at *
  have lp:=λk fr H=>@qJQ T fs n hlen (by omega) (by omega) hnr k fr H;have hpl:(qdN 0 fs).length=n:=by rw[qqd,hlen]
  simp[qj1,Fr.Aa,e1,e2,w1,w2,g1,g2,g3,qEw,qwL,qi5,e3,↓qsQ,↓quj,qsa,Fr.only];simp only[qeb,List.map_replicate]at e4;refine (congrArg (λz=>bo z _) e4).trans ?_;simp[qla];refine (lp _ _ _ (by simp[gc,Fr.keep,qaH,qaw,qat,PV.refs,qaJ,gcH,qaO,Obj.refs,PV.ren,Obj.ren,Heap.obj,Fr.ren,gh,zzd])).trans ?_;have ht:((qdN 0 fs).map I).take n=(qdN 0 fs).map I:=zzv (by simp[hpl]);simp[fin,Bj,hpl,ht]
 ·have hd:qi1 j acc frm upto=[]:=by rw[qi1,if_neg hok]
  rw[hd];simp only[qnp,zzf,zzq]at hok;have w1:qaZ frm=true->qaZ upto=true->IntKind.i64.wrap (upto-frm)=upto-frm:=by intro a b;simp[qaZ]at a b;exact wrI (by omega) (by omega)
  obtain⟨a,ha⟩:∃a,qaZ frm=a:=⟨_,rfl⟩;obtain⟨b,hb⟩:∃b,qaZ upto=b:=⟨_,rfl⟩;rw[ha]at e1 hok w1;rw[hb]at e2 hok w1;cases a<;>cases b<;>simp only[forall_const,zzg,false_imp_iff]at w1
  all_goals simp[qj1,Fr.Aa,e1,e2]
  repeat' (refine qbx (λh=>?_) (λh=>?_)<;>(try simp at h)<;>(try simp[h,w1]))
  all_goals (simp at hok;omega)
def dly(j:CL Ag)(acc frm upto:Int):CE:=qi1 j acc frm upto
def qFz(j:CL Ag)(acc frm upto:Int):(dly j acc frm upto).length<=4000:=by
 unfold dly qi1;split
 ·rename_i hok;simp only[qnp,qaZ,zzf,zzq]at hok;rw[qqd,qpV (λes=>es.length=(upto-frm+1).toNat) (λes e x h=>by rw[qsi];exact h) j 0 _ (by simp[zer])];omega
 ·simp
def qRE(T:Tab)(hT:HU T)(hV:HV T)(j:CL Ag)(t:CO)(acc frm upto:Int)(hn:j.length<=maxLen)(ho:∀e∈j,e.Ai.l.length<=maxLen):T.val 880 [.l (K1 10) (j.map Ag.dv) t,I acc,I frm,I upto]=some (.d (.l K0 ((dly j acc frm upto).map I) false),true):=qRD T hT hV j t acc frm upto hn ho
