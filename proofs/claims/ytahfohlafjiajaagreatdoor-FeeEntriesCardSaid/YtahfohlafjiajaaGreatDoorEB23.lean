/- Part 23 of the proof: CbRl, CbRm, CbN0, CbC25N, CbV25N, CbN1, CbKo, CbX9, CbRn, CbXa, CbXb0, CbXb, CbRo, CbRp, CbX5, CbX6, CbX7, CbX8, CbRq, CbRs, CbRt, CbGe, CbO1, CbO0, CbV28A, CbZ1, CbZ2, CbJ9, CbXg, CbZ3, CbZ4, CbV28D, CbRu, CbRv, CbZ5, CbRw, CbV28E, CbRx, CbRxa, CbRxb, CbRxc. -/
import Derived.Test.YtahfohlafjiajaaGreatDoorEB21
import Derived.Test.YtahfohlafjiajaaGreatDoorEB22
import Derived.Test.YtahfohlafjiajaaGreatDoorEB7
import Derived.Test.YtahfohlafjiajaaGreatDoorEB6
import Derived.Test.YtahfohlafjiajaaGreatDoorEB8
import Derived.Test.YtahfohlafjiajaaGreatDoorEB9
import Derived.Test.YtahfohlafjiajaaGreatDoorEB2
import Derived.Test.YtahfohlafjiajaaGreatDoorEB13
import Derived.Test.YtahfohlafjiajaaGreatDoorEB5
import Derived.Test.YtahfohlafjiajaaGreatDoorEB11
section
open Go.Sim
attribute [local simp ↓] qd4 qd2 qdU qd3 qdR qdV qdS qdT sqK blK lpK qd9 qd7 qd5 qd8 qd6 qdN qdP qeC qdv qdt qdu qdy qcZ qc0 qcJ qcM qcY qc2 qcL qc3 qcS qcU qcV qcW qc1 qcX qcK qcN qcO qcP qcT qdr qdo qc5 qc4 qdd qc6 qbP qbW qc7 qc8 qeb qcB qea qeA qcE qdj qdk qde qdg qdf qcq qds qcs qda qdn qdi qdh qdc qdb qdm qdp qc9 qdl qdO qcp qcC qdE qeh qcc qdF qct qcu qdq qch qez qcQ qdw qdx qee qeB qec qdW qdX qdY qdZ qd0 qd1 qcR qdD qeF qeS qeT qeQ qeR qeP qeE qeW qeU qe1 qeV qe6 qfh qcr
attribute [local simp] qb3 qef qeg qdI qdJ qdz qdA qex qey qdG qdH rd IOp.adds qaw gh nid rgK rdS qdK qdL qei qej qeo qep qes qen qer qeq qcH qcF qcG qel qek qdC qdB qeu qet qev qew qeJ qeI qeK qbA qeN qeH qeO qe4 qe0 qe3 qe2
section
namespace Go.Sim
attribute [local simp ↓] qbh qbj qbb qbB qbi qbK qa8 qba qbr qbD qbE qbt qbu qa9 qbz qbe qbU qbT qfm qbJ qbG qfv qfu qbg qfi qbQ qfj qfl qfk qbI qbH qfo qfq qft qfs qfr qfn qfp qfw qby qbF
attribute [local simp] qbc qaT writeS touchS qax qaI chg qaZ qaO qaE qaP PV.refs PV.refsL IOp.okD IOp.barr qbo Nat.testBit
attribute [local simp] gc Fr.keep qaf qae qad PV.refs PV.refsL qah gcH qaj Obj.refs PV.ren PV.renL Obj.ren Heap.obj Fr.ren gh zzd
set_option maxRecDepth 10000
set_option maxHeartbeats 4000000
theorem qJX (T:Tab) (hS:HS T) (op:Int):T.val 951 [I op]=some (.d (I (qcd op)),false):=by
 rw[qab T (hS 951 qgQ rfl) rfl];by_cases h1:op<1
 ·rw[qcd,if_neg (by omega),if_neg (by omega),if_neg (by omega),if_neg (by omega)]
  simp[qgQ,Fr.ofArgs,h1]
 by_cases h2:19<op
 ·rw[qcd,if_neg (by omega),if_neg (by omega),if_neg (by omega),if_neg (by omega)]
  simp[qgQ,Fr.ofArgs,h1,h2]
 by_cases h3:op≤4
 ·rw[qcd,if_pos (by omega)]
  simp[qgQ,Fr.ofArgs,h1,h2,h3]
 by_cases c9:op=9
 ·subst c9;rw[show qcd 9=1 from rfl]
  simp[qgQ,Fr.ofArgs]
 have d9:=qac c9
 by_cases c16:op=16
 ·subst c16;rw[show qcd 16=1 from rfl]
  simp[qgQ,Fr.ofArgs]
 have d16:=qac c16
 by_cases c19:op=19
 ·subst c19;rw[show qcd 19=3 from rfl]
  simp[qgQ,Fr.ofArgs]
 have d19:=qac c19
 rw[qcd,if_neg (by omega),if_neg (by omega),if_neg c19,if_pos (by omega)]
 simp[qgQ,Fr.ofArgs,h1,h2,h3,d9,d16,d19]
theorem qJY (T:Tab) (hS:HS T) (op:Int):T.val 952 [I op]=some (.d (I (qgq op)),false):=by
 rw[qab T (hS 952 qh3 rfl) rfl];by_cases c1:op=1
 ·subst c1;rw[show qgq 1=9223372036854775807 from rfl]
  simp[qh3,Fr.ofArgs]
 have d1:=qac c1
 by_cases c2:op=2
 ·subst c2;rw[show qgq 2=1000000000000 from rfl]
  simp[qh3,Fr.ofArgs]
 have d2:=qac c2
 by_cases c3:op=3
 ·subst c3;rw[show qgq 3=1000000 from rfl]
  simp[qh3,Fr.ofArgs]
 have d3:=qac c3
 rw[qgq,if_neg c1,if_neg c2,if_neg c3];simp[qh3,Fr.ofArgs,d1,d2,d3]
theorem qCr (T:Tab) (x:AExpr) (l:List AExpr) (h2:x.Args.l=l.map AExpr.dv) (g:AExpr→Bool) (hg : ∀a∈l,T.val 921 [a.dv]=some (.d (.b (g a)),false)) (hn:l.length*56≤140737488355328) {k:KC (PV×Bool)} {r:Option (PV×Bool)} {fr:Fr} {H:Heap}
  (he:(l.any fun a => !(g a))=false→k (.exit 0) [(38,.d (.b false)),(3,.d (I l.length)),(1,.p 0 0 0)] [some (.box (K1 4) (.d x.dv))]=r)
  (hr:(l.any fun a => !(g a))=true→∀fr J,fr.get 2 = .d (.b false)→qar fr=[]→k .ret fr J=r)
  (h0:gc [1,3] 0 ⟨fr,H⟩=⟨[(3,.d (I 0)),(1,.p 0 0 0)],[some (.box (K1 4) (.d x.dv))]⟩) :
  kC T.env 0 fr H (.h (.loop [1,3] qmE,k))=r:=by
 refine qbN (fun i:Nat=>⟨[(3,.d (I i)),(1,.p 0 0 0)],[some (.box (K1 4) (.d x.dv))]⟩) (fun i=>i≤l.length∧∀v∈l.take i,g v=true) (fun i=>l.length-i) ?_ 0 ⟨Nat.zero_le _,by simp⟩ h0
 rintro B-i ⟨hi,ha⟩ hx;by_cases hlt:i<l.length
 ·have h1:(i:Int)<l.length:=by omega
  have h3:=wr1 (i:=i) (by omega)
  have e:=hg l[i] (zzs hlt)
  cases hk:g l[i] with
  |true =>
   rw[hk] at e;have hx':=hx (i+1) ⟨by omega,by
    rw[List.take_succ_eq_append_getElem hlt];intro v hv;rcases List.mem_append.1 hv with hv|hv
    ·exact ha v hv
    ·rw[List.mem_singleton.1 hv];exact hk⟩ (by omega)
   simp[h1,hlt,e,h2,h3];exact hx' _ _ (by simp)
  |false =>
   rw[hk] at e;have hf:(l.any fun a => !(g a))=true:=List.any_eq_true.2 ⟨l[i],zzs hlt,by simp[hk]⟩
   have hr':=hr hf
   simp[h1,hlt,e,h2];exact hr' _ _ (by simp[Fr.get]) (by simp[qar,gh])
 ·have:i=l.length:=by omega
  subst this;rw[List.take_length] at ha;have he':=he (by rw[List.any_eq_false];intro v hv;simp[ha v hv])
  have h1 : ¬((l.length:Int)<l.length):=by omega
  simp[h2];exact he'
theorem qJT (T:Tab) (hS:HS T) (x:AExpr) (l:List AExpr) (h2:x.Args.l=l.map AExpr.dv) (h4:l.length*56≤140737488355328) (g:AExpr→Bool) (hg : ∀a∈l,T.val 921 [a.dv]=some (.d (.b (g a)),false)) :
  T.val 921 [x.dv]=some (.d (.b (qhM x && !(l.any fun a => !(g a)))),false):=by
 have lp:=fun k r fr H => @qCr T x l h2 g hg h4 k r fr H
 have e1:=qJX T hS x.Op
 have e2:=qJY T hS x.Op
 unfold qhM;obtain⟨o,n,s,a⟩:=x;obtain⟨a,t⟩:=a;simp only at h2 lp e1 e2⊢;rw[qab T (hS 921 F921 rfl) rfl];generalize qgq o=M at *
 have hq:(qcd o==(a.length:Int))=((a.length:Int)==qcd o):=Bool.beq_comm
 rw[hq];generalize qcd o=q at *
 by_cases c1:(a.length:Int)=q
 ·by_cases c2:n<0
  ·have c2' : ¬0≤n:=by omega
   simp[F921,Fr.ofArgs,e1,c1,c2,c2',bne]
  have c2':0≤n:=by omega
  by_cases c3:M<n
  ·have c3' : ¬n≤M:=by omega
   simp[F921,Fr.ofArgs,e1,e2,c1,c2,c2',c3,c3',bne]
  have c3':n≤M:=by omega
  by_cases c4:s=[]
  ·subst c4;by_cases c5:o=4
   ·subst c5;simp[F921,Fr.ofArgs,e1,e2,c1,c2,c2',c3,c3',bne];refine lp _ _ _ _ (fun h => ?_) (fun h fr J h4 hg => ?_) (by simp)
    ·rw[h];simp
    ·rw[h];simp[h4,hg]
   ·have g5:=qac c5
    simp[F921,Fr.ofArgs,e1,e2,c1,c2,c2',c3,c3',g5,bne];refine lp _ _ _ _ (fun h => ?_) (fun h fr J h4 hg => ?_) (by simp)
    ·rw[h];simp
    ·rw[h];simp[h4,hg]
  ·have g4:(s==[])=false:=by simpa using c4
   by_cases c5:o=4
   ·subst c5;simp[F921,Fr.ofArgs,e1,e2,c1,c2,c2',c3,c3',g4,bne];refine lp _ _ _ _ (fun h => ?_) (fun h fr J h4 hg => ?_) (by simp)
    ·rw[h];simp
    ·rw[h];simp[h4,hg]
   ·have g5:=qac c5
    simp[F921,Fr.ofArgs,e1,e2,c1,c2,c2',c3,c3',g4,g5,bne]
 ·have g1:=qac c1
  simp[F921,Fr.ofArgs,e1,g1,bne]
theorem qx0 (T:Tab) (hS:HS T) (hT:HT T) : ∀(n:Nat) (x:AExpr),SizeOf.sizeOf x.dv<n→x.ok→∃b:Bool,T.val 921 [x.dv]=some (.d (.b b),false)∧(∀H0,Cl H0→T.ref 407 [.d x.dv,.f 408 []] H0=some (.d (.b b),H0))∧(b=true→qhM x=true∧∀l:List AExpr,x.Args.l=l.map AExpr.dv→∀a∈l,T.val 921 [a.dv]=some (.d (.b true),false)):=by
 intro n;induction n with
 |zero=>intro x h;exact absurd h (zzm _)
 |succ n ih =>
  intro x hn hx;obtain⟨l,h2,h3,h4⟩:=qgH hx;obtain⟨g,hg⟩:=qf0 (P:=fun (a:AExpr) (b:Bool)=>T.val 921 [a.dv]=some (.d (.b b),false)∧(∀H0,Cl H0→T.ref 407 [.d a.dv,.f 408 []] H0=some (.d (.b b),H0))) (fun a ha=>by
   obtain⟨b,q1,q2,-⟩:=ih a (by have:=qgG h2 ha;omega) (h3 a ha)
   exact⟨b,q1,q2⟩)
  refine⟨_,qJT T hS x l h2 h4 g (fun a ha=>(hg a ha).1),fun H0 hH=>qr8 T hT 408 x l h2 h4 _ (qxO T hT x) g (fun a ha=>(hg a ha).2) H0 hH,fun hb => ?_⟩
  simp only[zzf,Bool.not_eq_true',List.any_eq_false] at hb;refine⟨hb.1,fun l' hl' a ha => ?_⟩
  have ha':a.dv∈l.map AExpr.dv:=by rw[←h2,hl'];exact List.mem_map_of_mem ha
  obtain⟨a',m,e⟩:=List.mem_map.1 ha'
  have:=hb.2 a' m
  have e1:=(hg a' m).1
  rw[show g a'=true by simpa using this] at e1
  rw[←e];exact e1
end Go.Sim
end
section
namespace Go.Sim
attribute [local simp] gc Fr.keep qaf qae qad PV.refs PV.refsL qah gcH qaj Obj.refs PV.ren PV.renL Obj.ren Heap.obj Fr.ren gh zzd
set_option maxRecDepth 10000
set_option maxHeartbeats 4000000
theorem qCq (T:Tab) (x:AExpr) (l:List AExpr) (h2:x.Args.l=l.map AExpr.dv) (g:AExpr→Int) (hg : ∀a∈l,T.val 920 [a.dv]=some (.d (I (g a)),false)) (hn:l.length*56≤140737488355328) {k:KC (PV×Bool)} {r:Option (PV×Bool)} {fr:Fr} {H:Heap}
  (he:k (.exit 0) [(9,.d (.b false)),(4,.d (I l.length)),(3,.d (I (l.foldl (fun n a=>max n (g a)) 0))),(1,.p 0 0 0)] [some (.box (K1 4) (.d x.dv))]=r)
  (h0:gc [1,3,4] 0 ⟨fr,H⟩=⟨[(4,.d (I 0)),(3,.d (I 0)),(1,.p 0 0 0)],[some (.box (K1 4) (.d x.dv))]⟩) :
  kC T.env 0 fr H (.h (.loop [1,3,4] qo2,k))=r:=by
 refine qgo (fun p:Nat×Int=>⟨[(4,.d (I p.1)),(3,.d (I p.2)),(1,.p 0 0 0)],[some (.box (K1 4) (.d x.dv))]⟩) (fun i=>(i,(l.take i).foldl (fun n a=>max n (g a)) 0)) l.length ?_ ?_ (by rw[h0];rfl)
 ·intro B _;simp only[List.take_length];rw[←he];have h1 : ¬((l.length:Int)<l.length):=by omega
  simp[h2]
 ·intro B _ i hi c hc;have h1:(i:Int)<l.length:=by omega
  have h3:=wr1 (i:=i) (by omega)
  have e:=hg l[i] (zzs hi)
  simp only[List.take_succ_eq_append_getElem hi,List.foldl_append,List.foldl_cons,List.foldl_nil] at hc;simp only;generalize (l.take i).foldl (fun n a=>max n (g a)) 0=m at *
  simp[h1,hi,h2,h3,e];exact hc _ _ (by simp)
theorem qJS (T:Tab) (hS:HS T) (hT:HT T) : ∀(n:Nat) (x:AExpr),SizeOf.sizeOf x.dv<n→x.ok→∃v:Int,T.val 406 [x.dv]=some (.d (I v),false)∧T.val 920 [x.dv]=some (.d (I v),false):=by
 intro n;induction n with
 |zero=>intro x h;exact absurd h (zzm _)
 |succ n ih =>
  intro x hn hx;obtain⟨l,h2,h3,h4⟩:=qgH hx;obtain⟨g,hg⟩:=qf0 (P:=fun (a:AExpr) (v:Int)=>T.val 406 [a.dv]=some (.d (I v),false)∧T.val 920 [a.dv]=some (.d (I v),false)) (fun a ha=>ih a (by have:=qgG h2 ha;omega) (h3 a ha))
  refine⟨_,qxN T hT x l h2 h4 g (fun a ha=>(hg a ha).1),?_⟩
  have lp:=fun k r fr H => @qCq T x l h2 g (fun a ha=>(hg a ha).2) h4 k r fr H
  rw[qab T (hS 920 F920 rfl) rfl];simp[F920,Fr.ofArgs];refine lp _ _ _ _ ?_ (by simp)
  simp
theorem qmV (x:AExpr) (m:Int):qav x.dv m=qbm x.Args.l 1 m:=by
 unfold AExpr.dv;conv=>lhs;unfold qav
theorem qii : ∀(es:List DV) (n m:Int),n≤qbm es n m
 | [],n,m=>by unfold qbm;omega
 |e::es,n,m=>by
  unfold qbm;split
  ·rename_i h;have h1:=(qlw e (m-n) (by omega)).1
   have:=qii es (n+qav e (m-n)) m
   omega
  ·omega
theorem qtt {m m':Int} (hm:m≤m') : ∀(l:List AExpr) (_ : ∀a∈l,∀q q':Int,0≤q→q≤q'→(qav a.dv q≤q→qav a.dv q'=qav a.dv q)∧(q<qav a.dv q→q<qav a.dv q')) (n:Int),(qbm (l.map AExpr.dv) n m≤m→qbm (l.map AExpr.dv) n m'=qbm (l.map AExpr.dv) n m)∧(m<qbm (l.map AExpr.dv) n m→m<qbm (l.map AExpr.dv) n m')
 | [],_,n=>by simp[qbm]
 |a::l,h,n=>by
  simp only[zzu];by_cases hn:n≤m
  ·have e1:qbm (a.dv::l.map AExpr.dv) n m=qbm (l.map AExpr.dv) (n+qav a.dv (m-n)) m:=by conv=>lhs;unfold qbm;rw[if_pos hn]
   have e2:qbm (a.dv::l.map AExpr.dv) n m'=qbm (l.map AExpr.dv) (n+qav a.dv (m'-n)) m':=by conv=>lhs;unfold qbm;rw[if_pos (by omega)]
   rw[e1,e2];obtain⟨q1,q2⟩:=h a (by simp) (m-n) (m'-n) (by omega) (by omega)
   by_cases c:qav a.dv (m-n)≤m-n
   ·rw[q1 c];exact qtt hm l (fun b hb=>h b (by simp[hb])) _
   ·have q2:=q2 (by omega)
    have g1:=qii (l.map AExpr.dv) (n+qav a.dv (m-n)) m
    have g2:=qii (l.map AExpr.dv) (n+qav a.dv (m'-n)) m'
    exact⟨fun k=>by omega,fun _=>by omega⟩
  ·have e1:qbm (a.dv::l.map AExpr.dv) n m=n:=by conv=>lhs;unfold qbm;rw[if_neg hn]
   have g2:=qii (a.dv::l.map AExpr.dv) n m'
   rw[e1];exact⟨fun k=>absurd k hn,fun _=>by omega⟩
theorem qzf : ∀(n:Nat) (x:AExpr),SizeOf.sizeOf x.dv<n→x.ok→∀m m':Int,0≤m→m≤m'→(qav x.dv m≤m→qav x.dv m'=qav x.dv m)∧(m<qav x.dv m→m<qav x.dv m'):=by
 intro n;induction n with
 |zero=>intro x h;exact absurd h (zzm _)
 |succ n ih =>
  intro x hn hx m m' h0 hm;obtain⟨l,h2,h3,h4⟩:=qgH hx;rw[qmV,qmV,h2];exact qtt hm l (fun a ha q q'=>ih a (by have:=qgG h2 ha;omega) (h3 a ha) q q') 1
theorem que (g:AExpr→Int) {m:Int} (hm:m≤1000) : ∀(l:List AExpr) (_ : ∀a∈l,∀q:Int,0≤q→q≤1000→qav a.dv q≤q→g a=qav a.dv q) (n:Int),1≤n→qbm (l.map AExpr.dv) n m≤m→l.foldl (fun n a=>IntKind.i64.wrap (n+g a)) n=qbm (l.map AExpr.dv) n m
 | [],_,n,_,_=>by simp[qbm]
 |a::l,h,n,hn1,hc=>by
  simp only[zzu] at hc⊢;have h0:=qii (a.dv::l.map AExpr.dv) n m
  have hn:n≤m:=by omega
  have e1:qbm (a.dv::l.map AExpr.dv) n m=qbm (l.map AExpr.dv) (n+qav a.dv (m-n)) m:=by conv=>lhs;unfold qbm;rw[if_pos hn]
  rw[e1] at hc⊢;have h1:=qlw a.dv (m-n) (by omega)
  have h2:=qii (l.map AExpr.dv) (n+qav a.dv (m-n)) m
  have e2:=h a (by simp) (m-n) (by omega) (by omega) (by omega)
  rw[List.foldl_cons,e2,wrI (by omega) (by omega)]
  exact que g hm l (fun b hb=>h b (by simp[hb])) _ (by omega) hc
theorem qIV (T:Tab) (hT:HT T) : ∀(n:Nat) (x:AExpr),SizeOf.sizeOf x.dv<n→x.ok→∀m:Int,0≤m→m≤1000→qav x.dv m≤m→T.val 405 [x.dv]=some (.d (I (qav x.dv m)),false):=by
 intro n;induction n with
 |zero=>intro x h;exact absurd h (zzm _)
 |succ n ih =>
  intro x hn hx m h0 hm hc;obtain⟨l,h2,h3,h4⟩:=qgH hx;obtain⟨g,hg⟩:=qf0 (P:=fun (a:AExpr) (v:Int)=>T.val 405 [a.dv]=some (.d (I v),false)) (fun a ha=>qxL T hT _ a (Nat.lt_succ_self _) (h3 a ha))
  rw[qmV,h2] at hc⊢;rw[qxM T hT x l h2 h4 g hg,que g hm l (fun a ha q q0 q1 hq=>by
   have e:=ih a (by have:=qgG h2 ha;omega) (h3 a ha) q q0 q1 hq
   rw[hg a ha] at e;injection e with e;injection e with e _;injection e with e;injection e) 1 (by omega) hc]
end Go.Sim
end
end
section
namespace Go.Sim
end Go.Sim
end
section
open Go Go.Proofs Go.Proofs.YtahfohlafjiajaaGreatDoor
namespace Go.Sim
set_option maxRecDepth 100000
set_option maxHeartbeats 4000000
end Go.Sim
end
section
namespace Go.Sim
end Go.Sim
end
section
open Go.Sim
attribute [local simp ↓] qd4 qd2 qdU qd3 qdR qdV qdS qdT sqK blK lpK qd9 qd7 qd5 qd8 qd6 qdN qdP qeC qdv qdt qdu qdy qcZ qc0 qcJ qcM qcY qc2 qcL qc3 qcS qcU qcV qcW qc1 qcX qcK qcN qcO qcP qcT qdr qdo qc5 qc4 qdd qc6 qbP qbW qc7 qc8 qeb qcB qea qeA qcE qdj qdk qde qdg qdf qcq qds qcs qda qdn qdi qdh qdc qdb qdm qdp qc9 qdl qdO qcp qcC qdE qeh qcc qdF qct qcu qdq qch qez qcQ qdw qdx qee qeB qec qdW qdX qdY qdZ qd0 qd1 qcR qdD qeF qeS qeT qeQ qeR qeP qeE qeW qeU qe1 qeV qe6 qfh qcr
attribute [local simp] qb3 qef qeg qdI qdJ qdz qdA qex qey qdG qdH rd IOp.adds qaw gh nid rgK rdS qdK qdL qei qej qeo qep qes qen qer qeq qcH qcF qcG qel qek qdC qdB qeu qet qev qew qeJ qeI qeK qbA qeN qeH qeO qe4 qe0 qe3 qe2
section
namespace Go.Sim
attribute [local simp] gc Fr.keep qaf qae qad PV.refs PV.refsL qah gcH qaj Obj.refs PV.ren PV.renL Obj.ren Heap.obj Fr.ren gh zzd
set_option maxRecDepth 10000
set_option maxHeartbeats 4000000
theorem qyG {R:Type} (a b:List UInt8) {d:DV→Option R}:bo (qa1 .lss (.d (.s a)) (.d (.s b))) (.h d)=d (.b (Op.bytesLess a b)):=rfl
end Go.Sim
end
section
namespace Go.Sim
set_option maxRecDepth 10000
set_option maxHeartbeats 4000000
section
variable {R : Type} {H : Heap} {id : Nat} {k : K} {b : Nat} {q : PV → Heap → Option R}
theorem qs6 {o off len:Nat} {k':K}:bo2 (qgT H id k b (.r o k' off len false) []) (.h q)=match H.obj o with
  |some (.sl k'' ro es)=>chk ((K.eq k k'&&K.eq k k''&&decide (off+len≤es.length)&&decide (len*b≤2^47))=true) (.h (chk (ro≤off+len) (.h (q (.r id k 0 len false) ((H.put o none).put id (some (.sl k (ro-off) ((es.drop off).take len))))))))
  | _=>none:=by
 simp only[qgT,qfO,qfy,qb3,if_true,chk,List.length_nil,Nat.add_zero,List.isEmpty_nil,Bool.or_true];cases H.obj o with
 |none=>rfl
 |some x =>
  cases x with
  |sl k'' ro es =>
   simp only[List.append_nil,zzg,if_false];split
   ·split<;>rfl
   ·rfl
  | _=>rfl
theorem qpd {o off len:Nat} {k':K} {t:Bool} {ys:List DV} (hy:ys≠[]):bo2 (qgT H id k b (.r o k' off len t) ys) (.h q)=match H.obj o with
  |some (.sl k'' ro es)=>chk ((K.eq k k'&&K.eq k k''&&decide (off+len≤es.length)&&decide ((len+ys.length)*b≤2^47))=true) (.h (brn t (.h (q (.r id k 0 (len+ys.length) false) (H.put id (some (.sl k 0 ((es.drop off).take len++ys)))),chk (ro≤off+len) (.h (q (.r id k 0 (len+ys.length) false) ((H.put o none).put id (some (.sl k (ro-off) ((es.drop off).take len++ys))))))))))
  | _=>none:=by
 cases ys with
 |nil=>exact absurd rfl hy
 |cons y ys=>exact qeE
end
theorem sdK (v:DV):qga K0 v 0 K0=some v:=rfl
end Go.Sim
end
section
namespace Go.Sim
attribute [local simp] gc Fr.keep qaf qae qad PV.refs PV.refsL qah gcH qaj Obj.refs PV.ren PV.renL Obj.ren Heap.obj Fr.ren gh zzd
set_option maxRecDepth 10000
set_option maxHeartbeats 4000000
structure HC (T:Tab):Prop where
 ato : ∀ds,T.val 451 ds=qln ds
 par : ∀ds,T.val 440 ds=qlX ds
 cnt : ∀ds,T.val 423 ds=qmW ds
section
variable {R : Type} {E : Env} {ρ : Rand → PV} {H : Heap} {id : Nat} {q : PV → Heap → Option R}
theorem qta {neg:Bool} {kd:Nat} {x:Rand}:bo2 (qaa E ρ H id (.isnil neg kd x)) (.h q)=bo (qgr kd (ρ x)) (.h fun b=>q (.d (.b (if neg=true then !b else b))) H):=by
 simp only[qaa];cases qgr kd (ρ x)<;>rfl
end
section
variable {R : Type} {E : Env} {base : Nat}
theorem qjh {σ:Type} {live:List Nat} {body:PC} {k:KC R} {Q:R→Prop} (st:σ→St) (inv:σ→Prop) (μ:σ→Nat)
  (hround : ∀B,B=body→∀s,inv s→(∀s',inv s'→μ s'<μ s→∀fr H,gc live base ⟨fr,H⟩=st s'→Ans Q (kC E base fr H (.h (.loop live B,k))))→Ans Q (kC E base (st s).fr (st s).H (.h (body,lpK E base live B k))))
  (s:σ) (hs:inv s) {fr:Fr} {H:Heap} (h0:gc live base ⟨fr,H⟩=st s):Ans Q (kC E base fr H (.h (.loop live body,k))):=by
 have key : ∀(n:Nat) (s:σ),μ s<n→inv s→∀fr H,gc live base ⟨fr,H⟩=st s→Ans Q (kC E base fr H (.h (.loop live body,k))):=by
  intro n;induction n with
  |zero=>intro s h;exact absurd h (zzm _)
  |succ n ih =>
   intro s hn hv fr H hg;rw[qnp,hg];exact hround body rfl s hv fun s' hv' hm fr' H' hg'=>ih s' (by omega) hv' fr' H' hg'
 exact key (μ s+1) s (Nat.lt_succ_self _) hs fr H h0
end
def qfb (n:Int):Bool:=decide (97≤n)&&decide (n≤122)
def qcf (n:Int):Bool:=decide (48≤n)&&decide (n≤57)
def qb7 (n:Int):Bool:=qfb n||(qcf n||decide (n=95))
def qjl (n:Int):Bool:=qb7 n||(decide (n=46)||decide (n=37))
theorem qxS (T:Tab) (hT:HT T) (n:Int):T.val 429 [.i .i32 n]=some (.d (.b (qfb n)),false):=by
 rw[qab T (hT 429 qjE rfl) rfl];unfold qfb;by_cases h:97≤n
 ·simp[qjE,Fr.ofArgs,h]
 ·simp[qjE,Fr.ofArgs,h]
theorem qoa (T:Tab) (hT:HT T) (n:Int):T.val 432 [.i .i32 n]=some (.d (.b (qcf n)),false):=by
 rw[qab T (hT 432 qjF rfl) rfl];unfold qcf;by_cases h:48≤n
 ·simp[qjF,Fr.ofArgs,h]
 ·simp[qjF,Fr.ofArgs,h]
theorem qxT (T:Tab) (hT:HT T) (n:Int):T.val 430 [.i .i32 n]=some (.d (.b (qb7 n)),false):=by
 have e1:=qxS T hT n
 have e2:=qoa T hT n
 rw[qab T (hT 430 qh0 rfl) rfl];unfold qb7;generalize qfb n=b1 at *
 generalize qcf n=b2 at *
 cases b1 with
 |true=>simp[qh0,Fr.ofArgs,e1]
 |false =>
  cases b2 with
  |true=>simp[qh0,Fr.ofArgs,e1,e2]
  |false =>
   by_cases h:n=95
   ·subst h;simp[qh0,Fr.ofArgs,e1,e2]
   ·have g:=qac h
    simp[qh0,Fr.ofArgs,e1,e2,h,g]
theorem qJb (T:Tab) (hT:HT T) (n:Int):T.val 434 [.i .i32 n]=some (.d (.b (qjl n)),false):=by
 have e1:=qxT T hT n
 rw[qab T (hT 434 qh1 rfl) rfl];unfold qjl;generalize qb7 n=b1 at *
 cases b1 with
 |true=>simp[qh1,Fr.ofArgs,e1]
 |false =>
  by_cases h:n=46
  ·subst h;simp[qh1,Fr.ofArgs,e1]
  ·have g:=qac h
   by_cases h2:n=37
   ·subst h2;simp[qh1,Fr.ofArgs,e1]
   ·have g2:=qac h2
    simp[qh1,Fr.ofArgs,e1,h,g,h2,g2]
theorem qI7 (T:Tab) (hT:HT T) (n:Int):T.val 426 [.i .i32 n]=some (.d (.b (!decide (n=10))),false):=by
 rw[qab T (hT 426 qjD rfl) rfl];by_cases h:n=10
 ·simp[qjD,Fr.ofArgs,h,bne]
 ·have g:=qac h
  simp[qjD,Fr.ofArgs,h,g,bne]
def cN (c:UInt8):Int:=(c.toNat:Int)
theorem qB6 (T:Tab) (h:Nat) (p:Int→Bool) (hp : ∀n,T.val h [.i .i32 n]=some (.d (.b (p n)),false)) (s:List UInt8) (hs:s.length≤maxLen) (H0:Heap) (hH:Cl H0) {k:KC (PV×Heap)} {r:Option (PV×Heap)} {fr:Fr} {H:Heap}
  (he : ∀b,k (.exit 0) [(17,.d (.b b)),(5,.d (I (s.takeWhile fun c=>p (cN c)).length)),(1,.f h []),(0,.d (.s s))] H0=r)
  (h0:gc [0,1,5] H0.length ⟨fr,H⟩=⟨[(5,.d (I 0)),(1,.f h []),(0,.d (.s s))],H0⟩) :
  kC T.env H0.length fr H (.h (.loop [0,1,5] qmx,k))=r:=by
 refine qbN (fun i:Nat=>⟨[(5,.d (I i)),(1,.f h []),(0,.d (.s s))],H0⟩) (fun i=>i≤s.length∧(s.takeWhile fun c=>p (cN c)).length=i+((s.drop i).takeWhile fun c=>p (cN c)).length) (fun i=>s.length-i) ?_ 0 ⟨Nat.zero_le _,by simp⟩ h0
 rintro B-i ⟨hi,ha⟩ hx;have hm:=mxl
 by_cases hlt:i<s.length
 ·have h1:(i:Int)<s.length:=by omega
  have h3:=wr1 (i:=i) (by omega)
  have w32:IntKind.i32.wrap ((s[i].toNat:Nat):Int)=cN s[i]:=by
   rw[IntKind.wrap_i32];have:=s[i].toNat_lt;unfold cN;omega
  have e:=hp (cN s[i])
  rw[List.drop_eq_getElem_cons hlt,List.takeWhile_cons] at ha;cases hk:p (cN s[i]) with
  |true =>
   rw[hk] at e;rw[hk,if_pos rfl,zzn] at ha;have hx':=hx (i+1) ⟨by omega,by omega⟩ (by omega)
   simp[h1,hlt,h3,↓qbw,↓qbX,↓qaF,↓qaW,w32,e];exact hx' _ _ (by rw[qlF _ hH (by simp[qae,Fr.keep,PV.refs,PV.refsL,gh])];simp[Fr.keep,gh])
  |false =>
   rw[hk] at e;rw[hk] at ha;simp only[zzg,if_false,List.length_nil,Nat.add_zero] at ha;rw[ha] at he;have he':=he false
   simp[h1,hlt,↓qbw,↓qbX,↓qaF,↓qaW,w32,e];exact he'
 ·have:i=s.length:=by omega
  subst this;rw[List.drop_of_length_le (zzt _),List.takeWhile_nil,List.length_nil,Nat.add_zero] at ha;rw[ha] at he;have he':=he false
  have h1 : ¬((s.length:Int)<s.length):=by omega
  simp;exact he'
theorem qxo {α:Type} (p:α→Bool) (s:List α):s.take (s.takeWhile p).length=s.takeWhile p:=by
 induction s with
 |nil=>rfl
 |cons x r ih =>
  rw[List.takeWhile_cons];by_cases h:p x=true
  ·rw[if_pos h,zzn,List.take_succ_cons,ih]
  ·rw[if_neg h];rfl
theorem qn4 {α:Type} (p:α→Bool) (s:List α):(s.takeWhile p).length≤s.length:=by
 have:=congrArg List.length (qxo p s)
 rw[List.length_take] at this;omega
theorem ql5 (T:Tab) (hT:HT T) (h:Nat) (p:Int→Bool) (hp : ∀n,T.val h [.i .i32 n]=some (.d (.b (p n)),false)) (s:List UInt8) (hs:s.length≤maxLen) (H0:Heap) (hH:Cl H0) :
  T.ref 425 [.d (.s s),.f h []] H0=some (.d (.s (s.takeWhile fun c=>p (cN c))),H0):=by
 have lp:=fun k r fr H => @qB6 T h p hp s hs H0 hH k r fr H
 have hl:=qn4 (fun c=>p (cN c)) s
 have ht:=qxo (fun c=>p (cN c)) s
 generalize s.takeWhile (fun c=>p (cN c))=w at *
 have hl':(w.length:Int)≤s.length:=by omega
 rw[qg3 T (hT 425 F425 rfl) rfl];simp[F425,Fr.ofArgs];refine lp _ _ _ _ (fun b => ?_) (by rw[qlF _ hH (by simp[qae,Fr.keep,PV.refs,PV.refsL,gh])];simp[Fr.keep,gh])
 simp[hl',ht,qgl,qnd hH]
def qlj (s:List UInt8):Prop:=∃(c:UInt8) (r:List UInt8),s=c::r∧qfb (cN c)=true
theorem qnw {s:List UInt8} {i:Nat} (h:qlj s) (hi:i=0) (hlt:i<s.length) : ¬((s[i].toNat:Nat):Int)=32∧¬((s[i].toNat:Nat):Int)=9∧¬((s[i].toNat:Nat):Int)=10∧¬((s[i].toNat:Nat):Int)=35:=by
 obtain⟨c,r,rfl,h⟩:=h;subst hi;simp only[qfb,cN,zzf] at h;have h1:(97:Int)≤((c.toNat:Nat):Int)   := of_decide_eq_true h.1
 have h2:((c.toNat:Nat):Int)≤122:=of_decide_eq_true h.2
 show ¬((c.toNat:Nat):Int)=32∧¬((c.toNat:Nat):Int)=9∧¬((c.toNat:Nat):Int)=10∧¬((c.toNat:Nat):Int)=35
 omega
def qor (s:List UInt8) (r:PV×Bool):Prop:=∃n:Nat,r=(.d (I n),false)∧n≤s.length∧(qlj s→n=0)
theorem qI4 (T:Tab) (hT:HT T) (s:List UInt8) (hs:s.length≤2048):Ans (qor s) (T.val 422 [.s s]):=by
 have hm:=mxl
 rw[qab T (hT 422 F422 rfl) rfl];simp[F422,Fr.ofArgs];refine qjh (fun i:Nat=>⟨[(3,.d (I i)),(0,.d (.s s))],[]⟩) (fun i=>i≤s.length∧(qlj s→i=0)) (fun i=>s.length-i) ?_ 0 ⟨Nat.zero_le _,fun _=>rfl⟩ (by simp)
 rintro B-i ⟨hi,hi0⟩ hx;by_cases hlt:i<s.length
 ·have h1:(i:Int)<s.length:=by omega
  have h1':(i:Int)≤s.length:=by omega
  have hle:i≤s.length:=by omega
  have h3:=wr1 (i:=i) (by omega)
  have e:=ql5 T hT 426 (fun n => !decide (n=10)) (fun n=>qI7 T hT n) (s.drop i) (by rw[List.length_drop,hm];omega) [] qok
  obtain⟨w,hw⟩ : ∃w,(s.drop i).takeWhile (fun c => !decide (cN c=10))=w:=⟨_,rfl⟩
  have hwl:=qn4 (fun c => !decide (cN c=10)) (s.drop i)
  rw[hw,List.length_drop] at hwl;simp only[hw] at e;have h5:IntKind.i64.wrap ((i:Int)+(w.length:Int))=((i+w.length:Nat):Int):=by rw[wrI (by omega) (by omega)];omega
  by_cases b1:((s[i].toNat:Nat):Int)=32
  ·have hx':=hx (i+1) ⟨by omega,fun h=>absurd b1 (qnw h (hi0 h) hlt).1⟩ (by omega)
   simp[h1,hlt,h3,↓qbw,↓qbX,b1];exact hx' _ _ (by simp)
  have g1:=qac b1
  by_cases b2:((s[i].toNat:Nat):Int)=9
  ·have hx':=hx (i+1) ⟨by omega,fun h=>absurd b2 (qnw h (hi0 h) hlt).2.1⟩ (by omega)
   simp[h1,hlt,h3,↓qbw,↓qbX,b2];exact hx' _ _ (by simp)
  have g2:=qac b2
  by_cases b3:((s[i].toNat:Nat):Int)=10
  ·have hx':=hx (i+1) ⟨by omega,fun h=>absurd b3 (qnw h (hi0 h) hlt).2.2.1⟩ (by omega)
   simp[h1,hlt,h3,↓qbw,↓qbX,b3];exact hx' _ _ (by simp)
  have g3:=qac b3
  by_cases b4:((s[i].toNat:Nat):Int)=35
  ·have hpos:0<w.length:=by
    rw[List.drop_eq_getElem_cons hlt,List.takeWhile_cons,if_pos (by unfold cN;rw[b4];decide)] at hw
    rw[←hw];simp
   have hx':=hx (i+w.length) ⟨by omega,fun h=>absurd b4 (qnw h (hi0 h) hlt).2.2.2⟩ (by omega)
   simp[h1,h1',hlt,↓qbw,↓qbX,b4,e,h5];exact hx' _ _ (by simp)
  have g4:=qac b4
  simp[h1,hlt,↓qbw,↓qbX,g1,g2,g3,g4];exact qb0 (show qor s _ from⟨i,rfl,hi,hi0⟩)
 ·have h1 : ¬((i:Int)<s.length):=by omega
  simp[h1];exact qb0 (show qor s _ from⟨i,rfl,hi,hi0⟩)
theorem qI5 (T:Tab) (hT:HT T) (s:List UInt8) (hs:s.length≤2048) : ∃n:Nat,n≤s.length∧T.val 422 [.s s]=some (.d (I n),false)∧(qlj s→n=0):=by
 obtain⟨r,h1,n,h2,h3,h4⟩:=qI4 T hT s hs;exact⟨n,h3,by rw[h1,h2],h4⟩
def qjb (s:List UInt8):Bool:=match s with
 | []=>false
 |c::r=>decide ((c::r).takeWhile (fun c=>qcf (cN c))=c::r)&&(decide (r=[]) || !decide (cN c=48))
theorem qxU (T:Tab) (hT:HT T) (s:List UInt8) (hs:s.length≤2048):T.val 439 [.s s]=some (.d (.b (qjb s)),false):=by
 have hm:=mxl
 have e:=ql5 T hT 432 qcf (fun n=>qoa T hT n) s (by rw[hm];omega) [] qok
 rw[qab T (hT 439 qhy rfl) rfl];cases s with
 |nil=>simp[qhy,Fr.ofArgs,qjb]
 |cons c r =>
  have hI:qjb (c::r)=(decide ((c::r).takeWhile (fun c=>qcf (cN c))=c::r)&&(decide (r=[]) || !decide (cN c=48))):=rfl
  rw[hI];generalize (c::r).takeWhile (fun c=>qcf (cN c))=w at *
  by_cases h1:w=c::r
  ·subst h1;by_cases h2:r=[]
   ·subst h2;simp[qhy,Fr.ofArgs,e]
   ·have l0:r.length≠0:=fun h=>h2 (List.length_eq_zero_iff.1 h)
    have l1 : ¬((r.length:Int)+1=1):=by omega
    have g1:=qac l1
    unfold cN;by_cases h3:((c.toNat:Nat):Int)=48
    ·simp[qhy,Fr.ofArgs,e,h2,g1,↓qbw,↓qbX,h3,bne]
    ·have g3:=qac h3
     simp[qhy,Fr.ofArgs,e,h2,g1,↓qbw,↓qbX,h3,g3,bne]
  ·have g1:=qg4 h1
   simp[qhy,Fr.ofArgs,e,h1,g1]
theorem qn5 {α:Type} {p:α→Bool} {x:α} : ∀{l:List α},x∈l.takeWhile p→p x=true
 | [],h=>by cases h
 |y::l,h=>by
  rw[List.takeWhile_cons] at h;by_cases c:p y=true
  ·rw[if_pos c] at h;rcases List.mem_cons.1 h with h|h
   ·rw[h];exact c
   ·exact qn5 h
  ·rw[if_neg c] at h;cases h
theorem qAj {s:List UInt8} (h:qjb s=true):s≠[]∧∀c∈s,qcf (cN c)=true:=by
 cases s with
 |nil=>cases h
 |cons c r =>
  simp only[qjb,zzf,zzq] at h;refine⟨by simp,fun d hd => ?_⟩
  rw[←h.1] at hd;exact qn5 (p:=fun c=>qcf (cN c)) hd
theorem qtL {c:UInt8} (h:qcf (cN c)=true):48≤c.toNat∧c.toNat≤57:=by
 simp only[qcf,zzf,zzq] at h;unfold cN at h;omega
theorem qtD : ∀(l:List UInt8) (a:Nat),(∀c∈l,qcf (cN c)=true)→∃n,Lib.decFrom a l=some n
 | [],a,_=>⟨a,rfl⟩
 |c::r,a,h=>by
  have hc:=h c (by simp)
  have hc:=qtL hc
  have e:Lib.digitVal c=some (c.toNat-48):=by unfold Lib.digitVal;rw[if_pos (by omega)]
  obtain⟨n,hn⟩:=qtD r (a*10+(c.toNat-48)) (fun d hd=>h d (by simp[hd]))
  exact⟨n,by rw[Lib.decFrom,e];exact hn⟩
theorem qyy {l:List UInt8} (h0:l≠[]) (h : ∀c∈l,qcf (cN c)=true) : ∃v,Lib.atoi l=some v:=by
 cases l with
 |nil=>exact absurd rfl h0
 |cons c r =>
  have hc:=h c (by simp)
  have hc:=qtL hc
  obtain⟨n,hn⟩:=qtD (c::r) 0 h;refine⟨(n:Int),?_⟩;have b1:(c==45)=false:=by
   simp only[beq_eq_false_iff_ne,ne_eq];intro e;rw[e] at hc;revert hc;decide
  have b2:(c==43)=false:=by
   simp only[beq_eq_false_iff_ne,ne_eq];intro e;rw[e] at hc;revert hc;decide
  rw[Lib.atoi,b1,b2];simp only[zzg,if_false,Lib.decNat,List.isEmpty_cons,hn,Option.map_some]
end Go.Sim
end
section
namespace Go.Sim
attribute [local simp] gc Fr.keep qaf qae qad PV.refs PV.refsL qah gcH qaj Obj.refs PV.ren PV.renL Obj.ren Heap.obj Fr.ren gh zzd
set_option maxRecDepth 10000
set_option maxHeartbeats 4000000
abbrev TW (l:List (List UInt8)):Prop:=∀s∈l,s.length≤maxLen
theorem qHD (es:List DV) (t:Bool) (j:Nat) (hj:j≤es.length) (H:Heap):slA H K0 (.d (.l K0 es t)) none (some (.d (I j))) none=some (.d (.l K0 (es.take j) (t&&j==es.length))):=by
 have h1:(0:Int)≤(j:Int)∧(j:Int)≤(es.length:Int):=⟨by omega,by omega⟩
 simp[slA,bnd,asI,K.eq,h1]
theorem qHE (es:List DV) (t:Bool) (j:Nat) (hj:j≤es.length) (H:Heap):slA H K0 (.d (.l K0 es t)) (some (.d (I j))) none none=some (.d (.l K0 (es.drop j) t)):=by
 have h1:(0:Int)≤(j:Int)∧(j:Int)≤(es.length:Int):=⟨by omega,by omega⟩
 simp[slA,bnd,asI,K.eq,h1]
def IsN (L0:List (List UInt8)) (s:List UInt8) (r:PV×Bool):Prop:=∃(L:List (List UInt8)) (own:Bool),r=(.d (.l K0 (L.map DV.s) false),own)∧L.length≤L0.length+1∧TW L∧L≠[]∧∀y,y∈L↔y∈L0∨y=s
theorem qx9 (T:Tab) (hS:HS T) (L:List (List UInt8)) (t:Bool) (hL:L.length≤1000) (hw:TW L) (s:List UInt8) (hs:s.length≤maxLen):Ans (IsN L s) (T.val 953 [.l K0 (L.map DV.s) t,.s s]):=by
 rw[qab T (hS 953 F953 rfl) rfl];simp[F953,Fr.ofArgs];refine qjh (fun k:Nat=>⟨[(5,.d (I k)),(1,.d (.s s)),(0,.d (.l K0 (L.map DV.s) t))],[]⟩) (fun k=>k≤L.length) (fun k=>L.length-k) ?_ 0 (Nat.zero_le _) (by simp)
 rintro B-k hk hx;have tail : ∀(c:List (Nat×PV)→Option (PV×Bool)),True:=fun _=>trivial
 clear tail
 have s1:=qHD (L.map DV.s) t k (by simpa using hk)
 have s2:=qHE (L.map DV.s) t k (by simpa using hk)
 have hw':TW (L.take k++s::L.drop k):=by
  intro y hy;rcases List.mem_append.1 hy with hy|hy
  ·exact hw y (List.mem_of_mem_take hy)
  ·rcases List.mem_cons.1 hy with rfl|hy
   ·exact hs
   ·exact hw y (List.mem_of_mem_drop hy)
 have hll:(L.take k++s::L.drop k).length≤L.length+1:=by
  rw[zzp,zzn,List.length_take,List.length_drop];omega
 have hmem : ∀y,y∈L.take k++s::L.drop k↔y∈L∨y=s:=fun y=>by
  rw[List.mem_append,List.mem_cons,←or_assoc,or_comm (b:=y=s),or_assoc,←List.mem_append,List.take_append_drop,or_comm]
 have b1:k*16≤140737488355328:=by omega
 have b2:(k+1)*16≤140737488355328:=by omega
 have b3:(k+1+(L.length-k))*16≤140737488355328:=by omega
 have m1:min k L.length=k:=by omega
 have gk:(k:Int)≤L.length:=by omega
 have at2:List.take (k+1) (List.take k (L.map DV.s)++[DV.s s])=List.take k (L.map DV.s)++[DV.s s]:=List.take_of_length_le (by rw[zzp,List.length_take,zzo];simp;omega)
 have at1:List.take k (List.take k (L.map DV.s))=List.take k (L.map DV.s):=List.take_of_length_le (by rw[List.length_take];omega)
 have le1:k+1+(L.length-k)≤k+(L.length-k+1):=by omega
 have at3:List.take (k+1+(L.length-k)) (List.take k (L.map DV.s)++DV.s s::List.drop k (L.map DV.s))=List.take k (L.map DV.s)++DV.s s::List.drop k (L.map DV.s):=List.take_of_length_le (by simp only[zzp,List.length_take,zzn,List.length_drop,zzo];omega)
 have fin:(L.take k++s::L.drop k).map DV.s=List.take k (L.map DV.s)++DV.s s::List.drop k (L.map DV.s):=by simp
 by_cases hlt:k<L.length
 ·have h1:(k:Int)<L.length:=by omega
  have h3:IntKind.i64.wrap ((k:Int)+1)=(k:Int)+1:=wrI (by omega) (by omega)
  have hx':=hx (k+1) (by omega) (by omega)
  have hB:List.drop k (L.map DV.s)≠[]:=by
   intro c
   have:=congrArg List.length c
   rw[List.length_drop,zzo,List.length_nil] at this;omega
  simp[h1,hlt,↓qyG];refine qmQ (fun h => ?_) (fun h => ?_)
  ·simp[h3];exact hx' _ _ (by simp)
  ·simp[h1,hlt];refine qmQ (fun h => ?_) (fun h => ?_)
   ·cases t
    ·simp;exact qb0 ⟨L,_,rfl,by omega,hw,(fun c=>by rw[c] at hlt;simp at hlt),fun y=>⟨.inl,fun q=>q.elim id fun e=>by rw[e,←eq_of_beq h];exact zzs hlt⟩⟩
    ·simp;exact qb0 ⟨L,_,rfl,by omega,hw,(fun c=>by rw[c] at hlt;simp at hlt),fun y=>⟨.inl,fun q=>q.elim id fun e=>by rw[e,←eq_of_beq h];exact zzs hlt⟩⟩
   ·simp[s1,s2,↓qpd,hB,b1,b2,b3,m1,at1,at2,le1];exact qb0 ⟨_,_,by rw[at3,fin],hll,hw',by simp,hmem⟩
 ·have hk2:k=L.length:=by omega
  have h1 : ¬((k:Int)<L.length):=by omega
  have hB:List.drop k (L.map DV.s)=[]:=List.drop_of_length_le (by simp;omega)
  have b0:L.length-k=0:=by omega
  simp[h1,s1,s2,↓qs6,↓qpd,hB,b1,b2,m1,at1,at2];exact qb0 ⟨_,_,by rw[fin,hB],hll,hw',by simp,hmem⟩
theorem qzg {e:DV} {es:List DV} {n m:Int} (h:qbm (e::es) n m≤m):n≤m∧1≤qav e (m-n)∧qav e (m-n)≤m-n∧qbm (e::es) n m=qbm es (n+qav e (m-n)) m:=by
 have h0:=qii (e::es) n m
 have hn:n≤m:=by omega
 have e1:qbm (e::es) n m=qbm es (n+qav e (m-n)) m:=by conv=>lhs;unfold qbm;rw[if_pos hn]
 have h1:=(qlw e (m-n) (by omega)).1
 have h2:=qii es (n+qav e (m-n)) m
 exact⟨hn,h1,by omega,e1⟩
def qlb (nm:List UInt8→Bool) (m:Int) (b:Bool) (r:PV×Bool):Prop:=∃(L:List (List UInt8)) (own:Bool),r=(.d (.l K0 (L.map DV.s) false),own)∧(L.length:Int)≤m∧TW L∧(b=true↔∀y∈L,nm y=true)
def fN:Bool→List (List UInt8)→Fr
 |true,_=>[(3,.r 0 K0 0 1 false),(1,.p 1 0 0)]
 |false,L=>[(3,.d (.l K0 (L.map DV.s) L.isEmpty)),(1,.p 0 0 0)]
def hN (x:AExpr):Bool→List (List UInt8)→Heap
 |true,L=>[some (.sl K0 0 (L.map DV.s)),some (.box (K1 4) (.d x.dv))]
 |false,_=>[some (.box (K1 4) (.d x.dv))]
theorem qvC {L L' M N:List (List UInt8)} {j:Nat} (hj:j<N.length) (h : ∀y,y∈L'↔y∈L∨y∈N.take j) (k : ∀y,y∈M↔y∈L'∨y=N[j]) : ∀y,y∈M↔y∈L∨y∈N.take (j+1):=fun y=>by
 rw[k,h,List.take_succ_eq_append_getElem hj,List.mem_append,List.mem_singleton,or_assoc]
theorem qvw (T:Tab) (hS:HS T) {Q:PV×Bool→Prop} (x:AExpr) (i:Nat) (N:List (List UInt8)) (hN0:TW N) (sh:Bool) (L:List (List UInt8)) (hsh:sh=true→L.length=1) (hL:TW L) (hl:L.length+N.length≤500) {k:KC (PV×Bool)} {fr:Fr} {H:Heap}
  (hk : ∀sh' L',(sh'=true→L'.length=1)→TW L'→L'.length≤L.length+N.length→(∀y,y∈L'↔y∈L∨y∈N)→Ans Q (k (.exit 2) ((31,.d (.b false))::(6,.d (I N.length))::(5,.d (.l K0 (N.map DV.s) false))::(4,.d (I i))::fN sh' L') (hN x sh' L')))
  (h0:gc [1,3,4,5,6] 0 ⟨fr,H⟩=⟨(6,.d (I 0))::(5,.d (.l K0 (N.map DV.s) false))::(4,.d (I i))::fN sh L,hN x sh L⟩) :
  Ans Q (kC T.env 0 fr H (.h (.loop [1,3,4,5,6] qlh,k))):=by
 refine qjh (fun q:Nat×Bool×List (List UInt8)=>⟨(6,.d (I q.1))::(5,.d (.l K0 (N.map DV.s) false))::(4,.d (I i))::fN q.2.1 q.2.2,hN x q.2.1 q.2.2⟩) (fun q=>q.1≤N.length∧(q.2.1=true→q.2.2.length=1)∧TW q.2.2∧q.2.2.length≤L.length+q.1∧∀y,y∈q.2.2↔y∈L∨y∈N.take q.1) (fun q=>N.length-q.1) ?_ (0,sh,L) ⟨Nat.zero_le _,hsh,hL,by simp,by simp⟩ h0
 rintro B-⟨j,sh',L'⟩ ⟨hj,hs',hw',hl',he'⟩ hx;simp only at hj hs' hw' hl' he'⊢;by_cases hlt:j<N.length
 ·clear hk
  have h1:(j:Int)<N.length:=by omega
  have h3:IntKind.i64.wrap ((j:Int)+1)=(j:Int)+1:=wrI (by omega) (by omega)
  have hs:=hN0 N[j] (zzs hlt)
  cases sh' with
  |true =>
   obtain⟨s0,rfl⟩ : ∃s0,L'=[s0]:=by
    have:=hs' rfl
    match L',this with
    | [s0],_=>exact⟨s0,rfl⟩
   obtain⟨r,e953,M,own,rfl,hm,hmw,hm0,hme0⟩:=qx9 T hS [s0] false (by simp) hw' N[j] hs
   have hme:M.isEmpty=false:=by cases M<;>first|rfl|exact absurd rfl hm0
   have hx':=hx (j+1,false,M) ⟨by simp only;omega,(fun c=>by cases c),hmw,by simp only at hm⊢;simp only[zzn,List.length_nil] at hm hl';omega,qvC hlt he' hme0⟩ (by simp only;omega)
   clear hx
   simp only[fN,hN,hme] at hx'⊢;simp only[zzu,List.map_nil] at e953;simp[h1,hlt,h3,e953,qaL,pur,qbd,PV.scal,PV.scal1,DV.scal,DV.scal1];exact hx' _ _ (by simp[frz,qgz,Heap.put])
  |false =>
   obtain⟨r,e953,M,own,rfl,hm,hmw,hm0,hme0⟩:=qx9 T hS L' L'.isEmpty (by omega) hw' N[j] hs
   have hme:M.isEmpty=false:=by cases M<;>first|rfl|exact absurd rfl hm0
   have hx':=hx (j+1,false,M) ⟨by simp only;omega,(fun c=>by cases c),hmw,by simp only;omega,qvC hlt he' hme0⟩ (by simp only;omega)
   clear hx
   simp only[fN,hN,hme] at hx'⊢;simp[h1,hlt,h3,e953,qaL,pur,qbd,PV.scal,PV.scal1,DV.scal,DV.scal1];exact hx' _ _ (by simp)
 ·have hj2:j=N.length:=by omega
  subst hj2;rw[List.take_length] at he';have hkj:=hk sh' L' hs' hw' (by omega) he'
  clear hk
  have h1 : ¬((N.length:Int)<N.length):=by omega
  cases sh' with
  |true =>
   simp only[fN,hN] at hkj⊢;simp[h1];exact hkj
  |false =>
   simp only[fN,hN] at hkj⊢;simp[h1];exact hkj
theorem qIY (T:Tab) (hT:HT T) (nm:List UInt8→Bool) (hN : ∀s:List UInt8,s.length≤maxLen→T.val 415 [.s s]=some (.d (.b (nm s)),false)) (x:AExpr) (hx:x.ok):T.val 409 [x.dv]=some (.d (.b (if x.Op=4 then nm x.S else true)),false):=by
 have e:=hN x.S hx.2.2.1
 rw[qab T (hT 409 qhZ rfl) rfl];by_cases h:x.Op=4
 ·rw[if_pos h];simp[qhZ,Fr.ofArgs,e,h,bne]
 ·have g:=qac h
  rw[if_neg h];simp[qhZ,Fr.ofArgs,g,bne]
theorem qJU (T:Tab) (hS:HS T) (hT:HT T) (nm:List UInt8→Bool) (hN0 : ∀s:List UInt8,s.length≤maxLen→T.val 415 [.s s]=some (.d (.b (nm s)),false)) : ∀(n:Nat) (x:AExpr),SizeOf.sizeOf x.dv<n→x.ok→∃b:Bool,(∀H0,Cl H0→T.ref 407 [.d x.dv,.f 409 []] H0=some (.d (.b b),H0))∧∀m:Int,0≤m→m≤200→qav x.dv m≤m→Ans (qlb nm (qav x.dv m) b) (T.val 922 [x.dv]):=by
 intro n;induction n with
 |zero=>intro x h;exact absurd h (zzm _)
 |succ n ih =>
  intro x hn hx;obtain⟨l,h2,h3,h4⟩:=qgH hx;obtain⟨g,hg⟩:=qf0 (P:=fun (a:AExpr) (b:Bool)=>(∀H0,Cl H0→T.ref 407 [.d a.dv,.f 409 []] H0=some (.d (.b b),H0))∧∀m:Int,0≤m→m≤200→qav a.dv m≤m→Ans (qlb nm (qav a.dv m) b) (T.val 922 [a.dv])) (fun a ha=>ih a (by have:=qgG h2 ha;omega) (h3 a ha))
  have e409:=qIY T hT nm hN0 x hx
  generalize hb0:(if x.Op=4 then nm x.S else true)=b0 at e409
  refine⟨_,fun H0 hH=>qr8 T hT 409 x l h2 h4 b0 e409 g (fun a ha=>(hg a ha).1) H0 hH,?_⟩
  intro m hm0 hm1 hc;generalize hb:(b0 && !(l.any fun a => !(g a)))=b
  have hbe:b=true↔b0=true∧∀a∈l,g a=true:=by
   rw[←hb];simp only[zzf,Bool.not_eq_true',List.any_eq_false,Bool.not_eq_true'];constructor
   ·rintro⟨q1,q2⟩;exact⟨q1,fun a ha=>by simpa using q2 a ha⟩
   ·rintro⟨q1,q2⟩;exact⟨q1,fun a ha=>by simp[q2 a ha]⟩
  have hcx:=qmV x m
  rw[h2] at hcx;have key : ∀(k:KC (PV×Bool)) (fr:Fr) (H:Heap) (sh:Bool) (L:List (List UInt8)),(sh=true→L.length=1)→TW L→L.length≤1→(b0=true↔∀y∈L,nm y=true) →
    (∀sh' L',(sh'=true→L'.length=1)→TW L'→(L'.length:Int)≤qav x.dv m→(b=true↔∀y∈L',nm y=true)→Ans (qlb nm (qav x.dv m) b) (k (.exit 0) ((19,.d (.b false))::(4,.d (I l.length))::fN sh' L') (hN x sh' L'))) →
    gc [1,3,4] 0 ⟨fr,H⟩=⟨(4,.d (I 0))::fN sh L,hN x sh L⟩→Ans (qlb nm (qav x.dv m) b) (kC T.env 0 fr H (.h (.loop [1,3,4] qjW,k))):=by
   intro k fr H sh L hsh hL hl hbL hk h0;refine qjh (fun q:Nat×Bool×List (List UInt8)=>⟨(4,.d (I q.1))::fN q.2.1 q.2.2,hN x q.2.1 q.2.2⟩) (fun q=>q.1≤l.length∧(q.2.1=true→q.2.2.length=1)∧TW q.2.2∧((∀y∈q.2.2,nm y=true)↔b0=true∧∀a∈l.take q.1,g a=true)∧∃nn:Int,(q.2.2.length:Int)≤nn∧1≤nn∧qbm ((l.drop q.1).map AExpr.dv) nn m=qav x.dv m) (fun q=>l.length-q.1) ?_ (0,sh,L) ⟨Nat.zero_le _,hsh,hL,by simp[hbL],1,by simp only;omega,by omega,by simp only[List.drop_zero];exact hcx.symm⟩ h0
   rintro B-⟨i,sh',L'⟩ ⟨hi,hs',hw',hq',nn,hn1,hn2,hn3⟩ hx1;simp only at hi hs' hw' hq' hn1 hn3⊢;by_cases hlt:i<l.length
   ·have h1:(i:Int)<l.length:=by omega
    have h5:IntKind.i64.wrap ((i:Int)+1)=(i:Int)+1:=wrI (by omega) (by omega)
    rw[List.drop_eq_getElem_cons hlt,zzu] at hn3;have hc2:=hc
    rw[←hn3] at hc2;obtain⟨p1,p2,p3,p4⟩:=qzg hc2;obtain⟨r,e922,N,own,rfl,hNl,hNw,hNq⟩:=(hg l[i] (zzs hlt)).2 (m-nn) (by omega) (by omega) p3
    have hsm:L'.length+N.length≤500:=by omega
    have fin : ∀sh2 L2,(sh2=true→L2.length=1)→TW L2→L2.length≤L'.length+N.length→(∀y,y∈L2↔y∈L'∨y∈N)→∀fr H,gc [1,3,4] 0 ⟨fr,H⟩=⟨(4,.d (I ((i:Int)+1)))::fN sh2 L2,hN x sh2 L2⟩→Ans (qlb nm (qav x.dv m) b) (kC T.env 0 fr H (.h (.loop [1,3,4] B,k))):=by
     intro sh2 L2 q1 q2 q3 qe fr H q4;exact hx1 (i+1,sh2,L2) ⟨by simp only;omega,q1,q2,by
      simp only;rw[List.take_succ_eq_append_getElem hlt];constructor
      ·intro q;have q5:=hq'.1 fun y hy=>q y ((qe y).2 (.inl hy))
       have q6:=hNq.2 fun y hy=>q y ((qe y).2 (.inr hy))
       refine⟨q5.1,fun a ha => ?_⟩
       rcases List.mem_append.1 ha with ha|ha
       ·exact q5.2 a ha
       ·rw[List.mem_singleton.1 ha];exact q6
      ·rintro⟨q5,q6⟩ y hy;rcases (qe y).1 hy with hy|hy
       ·exact hq'.2 ⟨q5,fun a ha=>q6 a (List.mem_append_left _ ha)⟩ y hy
       ·exact hNq.1 (q6 _ (List.mem_append_right _ (List.mem_singleton.2 rfl))) y hy,nn+qav (AExpr.dv l[i]) (m-nn),by simp only;omega,by omega,by simp only;rw[←p4];exact hn3⟩ (by simp only;omega) fr H (by rw[q4];rfl)
    clear hx1
    cases sh' with
    |true =>
     simp only[fN,hN];simp[h1,hlt,h2,e922,qaL,PV.scal,PV.scal1,DV.scal,DV.scal1];refine qvw T hS x i N hNw true L' hs' hw' hsm (fun sh2 L2 q1 q2 q3 qe => ?_) (by simp[fN,hN])
     have f2:=fin sh2 L2 q1 q2 q3 qe
     cases sh2 with
     |true =>
      simp only[fN,hN] at f2⊢;simp[h5];exact f2 _ _ (by simp)
     |false =>
      simp only[fN,hN] at f2⊢;simp[h5];exact f2 _ _ (by simp)
    |false =>
     simp only[fN,hN];simp[h1,hlt,h2,e922,qaL,PV.scal,PV.scal1,DV.scal,DV.scal1];refine qvw T hS x i N hNw false L' hs' hw' hsm (fun sh2 L2 q1 q2 q3 qe => ?_) (by simp[fN,hN])
     have f2:=fin sh2 L2 q1 q2 q3 qe
     cases sh2 with
     |true =>
      simp only[fN,hN] at f2⊢;simp[h5];exact f2 _ _ (by simp)
     |false =>
      simp only[fN,hN] at f2⊢;simp[h5];exact f2 _ _ (by simp)
   ·have hi2:i=l.length:=by omega
    subst hi2;have h1 : ¬((l.length:Int)<l.length):=by omega
    rw[List.drop_length,List.map_nil] at hn3;rw[List.take_length] at hq';have hf:(L'.length:Int)≤qav x.dv m:=by rw[←hn3];unfold qbm;exact hn1
    have hkk:=hk sh' L' hs' hw' hf (hbe.trans hq'.symm)
    cases sh' with
    |true =>
     simp only[fN,hN] at hkk⊢;simp[h1,h2];exact hkk
    |false =>
     simp only[fN,hN] at hkk⊢;simp[h1,h2];exact hkk
  rw[qab T (hS 922 F922 rfl) rfl];have hS0:x.S.length≤maxLen:=hx.2.2.1
  by_cases ho:x.Op=4
  ·rw[if_pos ho] at hb0;simp[F922,Fr.ofArgs,ho];refine key _ _ _ true [x.S] (fun _=>rfl) (fun s hs=>by rw[List.mem_singleton.1 hs];exact hS0) (zzt _) (by rw[←hb0];simp) (fun sh' L' q1 q2 q3 q4 => ?_) (by simp[fN,hN])
   cases sh' with
   |true =>
    obtain⟨s0,rfl⟩ : ∃s0,L'=[s0]:=by
     have:=q1 rfl
     match L',this with
     | [s0],_=>exact⟨s0,rfl⟩
    simp only[fN,hN];simp;exact qb0 ⟨[s0],_,rfl,q3,q2,q4⟩
   |false =>
    cases L' with
    |nil =>
     simp only[fN,hN];simp;exact qb0 ⟨[],_,rfl,q3,q2,q4⟩
    |cons s0 L' =>
     simp only[fN,hN,List.isEmpty_cons];simp;exact qb0 ⟨s0::L',_,rfl,q3,q2,q4⟩
  ·have go:=qac ho
   rw[if_neg ho] at hb0;simp[F922,Fr.ofArgs,go];refine key _ _ _ false [] (fun c=>by cases c) (fun s hs=>by cases hs) (Nat.zero_le _) (by rw[←hb0];simp) (fun sh' L' q1 q2 q3 q4 => ?_) (by simp[fN,hN])
   cases sh' with
   |true =>
    obtain⟨s0,rfl⟩ : ∃s0,L'=[s0]:=by
     have:=q1 rfl
     match L',this with
     | [s0],_=>exact⟨s0,rfl⟩
    simp only[fN,hN];simp;exact qb0 ⟨[s0],_,rfl,q3,q2,q4⟩
   |false =>
    cases L' with
    |nil =>
     simp only[fN,hN];simp;exact qb0 ⟨[],_,rfl,q3,q2,q4⟩
    |cons s0 L' =>
     simp only[fN,hN,List.isEmpty_cons];simp;exact qb0 ⟨s0::L',_,rfl,q3,q2,q4⟩
end Go.Sim
end
section
namespace Go.Sim
attribute [local simp] gc Fr.keep qaf qae qad PV.refs PV.refsL qah gcH qaj Obj.refs PV.ren PV.renL Obj.ren Heap.obj Fr.ren gh zzd
set_option maxRecDepth 10000
set_option maxHeartbeats 4000000
theorem quR (c:Nat) : ∀(l:List UInt8) (k i:Nat),ixB c l k=some i→k≤i∧i<k+l.length
 | [],k,i,h=>by cases h
 |x::r,k,i,h=>by
  rw[ixB] at h;by_cases e:Nat.beq x.toNat c=true
  ·rw[if_pos e] at h;injection h with h
   subst h;simp
  ·rw[if_neg e] at h
   have:=quR c r (k+1) i h
   simp only[zzn];omega
def ixI (c:Nat) (s:List UInt8):Int:=match ixB c s 0 with|some i=>(i:Int)|none=>-1
theorem qAp (c:Nat) (s:List UInt8):ixI c s = -1∨∃i:Nat,ixI c s=(i:Int)∧i<s.length:=by
 unfold ixI;cases h:ixB c s 0 with
 |none=>exact .inl rfl
 |some i=>exact .inr ⟨i,rfl,by have:=quR c s 0 i h;omega⟩
theorem qJe (T:Tab) (hT:HT T) (s:List UInt8):T.val 443 [.s s,.i .u8 46]=some (.d (I (ixI 46 s)),false):=by
 have e:qgK 2 [.d (.s s),.d (.i .u8 46)]=some (.d (I (ixI 46 s))):=rfl
 rw[qab T (hT 443 qkX rfl) rfl];simp[qkX,Fr.ofArgs,↓qlo,e]
theorem qJc (T:Tab) (hT:HT T) (s:List UInt8):T.val 436 [.s s,.s [46]]=some (.d (I (ixI 46 s)),false):=by
 have e:=qJe T hT s
 by_cases hs:[46]=s
 ·subst hs;rw[show ixI 46 [46]=0 from rfl,qab T (hT 436 qiJ rfl) rfl]
  simp[qiJ,Fr.ofArgs]
 ·have g:=qg4 hs
  rw[qab T (hT 436 qiJ rfl) rfl];simp[qiJ,Fr.ofArgs,g,↓qbw,↓qbX,e]
theorem qJk (T:Tab) (hT:HT T) (s:List UInt8) (hs:s.length≤2048) : ∃a b f,T.val 461 [.s s,.s [46]]=some (.t [.d (.s a),.d (.s b),.d (.b f)],false)∧(f=false→b=[])∧b.length≤2048∧a.length≤2048:=by
 have e:=qJc T hT s
 rcases qAp 46 s with h|⟨i,h,hi⟩
 ·refine⟨s,[],false,?_,fun _=>rfl,by simp,hs⟩
  rw[h] at e;rw[qab T (hT 461 qiK rfl) rfl];simp[qiK,Fr.ofArgs,e]
 ·refine⟨s.take i,s.drop (i+1),true,?_,(fun h=>by cases h),by rw[List.length_drop];omega,by rw[List.length_take];omega⟩
  rw[h] at e;have w:IntKind.i64.wrap ((i:Int)+1)=((i+1:Nat):Int):=by rw[wrI (by omega) (by omega)];omega
  have g1:(i:Int)≤s.length:=by omega
  have g2:i≤s.length:=by omega
  have g3:((i+1:Nat):Int)≤s.length:=by omega
  have g4:i+1≤s.length:=by omega
  rw[qab T (hT 461 qiK rfl) rfl];obtain⟨j,hj⟩ : ∃j,i+1=j:=⟨_,rfl⟩;rw[hj] at w g3 g4⊢;have g5:(0:Int)≤(j:Int):=by omega
  simp[qiK,Fr.ofArgs,e,↓qbh,↓qbj,↓qbb,↓qa8,qbc,↓qba,↓qbe,↓qfv,↓qbI,qaT,writeS,touchS,qax,qaI,chg,qaO,qaE,qaP,PV.refs,IOp.okD,Nat.testBit,w,g1,g3,g5,↓qcp,↓qcC]
theorem qJi (T:Tab) (hT:HT T) (s:List UInt8) (hs:s.length≤2048) : ∃a b f,T.val 450 [.s s,.s [46]]=some (.t [.d (.s a),.d (.s b),.d (.b f)],false)∧(f=false→b=[])∧b.length≤2048∧a.length≤2048:=by
 obtain⟨a,b,f,e,h⟩:=qJk T hT s hs;refine⟨a,b,f,?_,h⟩;rw[qab T (hT 450 qkZ rfl) rfl];simp[qkZ,Fr.ofArgs,e]
theorem qJl (T:Tab) (hT:HT T) (s:List UInt8) (hs:s.length≤2048) : ∃b:Bool,T.val 468 [.s s,.s [37]]=some (.d (.b b),false)∧(b=true→1≤s.length):=by
 rw[qab T (hT 468 qjH rfl) rfl];by_cases h:1≤s.length
 ·have w:IntKind.i64.wrap ((s.length:Int)-1)=((s.length-1:Nat):Int):=by rw[wrI (by omega) (by omega)];omega
  obtain⟨j,hj⟩ : ∃j,s.length-1=j:=⟨_,rfl⟩;rw[hj] at w;have g1:(j:Int)≤s.length:=by omega
  have g2:j≤s.length:=by omega
  have g3:(1:Int)≤s.length:=by omega
  refine⟨(s.drop j==[37]),?_,fun _=>h⟩
  simp[qjH,Fr.ofArgs,g3,w,g1]
 ·have g3 : ¬((1:Int)≤s.length):=by omega
  refine⟨false,?_,(fun h=>by cases h)⟩
  simp[qjH,Fr.ofArgs,g3]
theorem qJj (T:Tab) (hT:HT T) (s:List UInt8) (hs:s.length≤2048) : ∃a b,T.val 460 [.s s,.s [37]]=some (.t [.d (.s a),.d (.b b)],false)∧a.length≤2048:=by
 obtain⟨b,e,hb⟩:=qJl T hT s hs;rw[qab T (hT 460 qjG rfl) rfl];cases b with
 |false =>
  refine⟨s,false,?_,hs⟩;simp[qjG,Fr.ofArgs,e]
 |true =>
  have h:=hb rfl
  have w:IntKind.i64.wrap ((s.length:Int)-1)=((s.length-1:Nat):Int):=by rw[wrI (by omega) (by omega)];omega
  obtain⟨j,hj⟩ : ∃j,s.length-1=j:=⟨_,rfl⟩;rw[hj] at w;have g1:(j:Int)≤s.length:=by omega
  have g2:j≤s.length:=by omega
  refine⟨s.take j,true,?_,by rw[List.length_take];omega⟩
  simp[qjG,Fr.ofArgs,e,w,g1]
theorem qJg (T:Tab) (hT:HT T) (s:List UInt8) (hs:s.length≤2048) : ∃a b,T.val 449 [.s s,.s [37]]=some (.t [.d (.s a),.d (.b b)],false)∧a.length≤2048:=by
 obtain⟨a,b,e,h⟩:=qJj T hT s hs;refine⟨a,b,?_,h⟩;rw[qab T (hT 449 qkY rfl) rfl];simp[qkY,Fr.ofArgs,e]
def qgs (p:List UInt8):List UInt8:=p++List.replicate (4-p.length) 48
theorem qvv (T:Tab) (w p:List UInt8) (hp:p.length≤4) {k:KC (PV×Bool)} {r:Option (PV×Bool)} {fr:Fr} {H:Heap}
  (he:k (.exit 0) [(60,.d (.b false)),(7,.d (.s (qgs p))),(6,.d (.s w))] []=r)
  (h0:gc [6,7] 0 ⟨fr,H⟩=⟨[(7,.d (.s p)),(6,.d (.s w))],[]⟩) :
  kC T.env 0 fr H (.h (.loop [6,7] qoP,k))=r:=by
 refine qbN (fun q:List UInt8=>⟨[(7,.d (.s q)),(6,.d (.s w))],[]⟩) (fun q=>q.length≤4∧qgs q=qgs p) (fun q=>4-q.length) ?_ p ⟨hp,rfl⟩ h0
 rintro B-q ⟨hq,ha⟩ hx;by_cases hlt:q.length<4
 ·have h1:(q.length:Int)<4:=by omega
  have hx':=hx (q++[48]) ⟨by simp;omega,by
   rw[←ha];unfold qgs;rw[List.append_assoc,zzp,zzn,List.length_nil,show 4-q.length=4-(q.length+(0+1))+1 by omega,List.replicate_succ]
   rfl⟩ (by simp;omega)
  have h2:q.length+1<4611686018427387904:=by omega
  simp[h1,h2];exact hx' _ _ (by simp)
 ·have h1 : ¬((q.length:Int)<4):=by omega
  have e:qgs p=q:=by
   rw[←ha];unfold qgs
   rw[show 4-q.length=0 by omega];simp
  rw[e] at he;simp[h1];exact he
theorem qGO {p:List UInt8} (h : ∀c∈p,qcf (cN c)=true) : ∀c∈qgs p,qcf (cN c)=true:=by
 intro c hc;rcases List.mem_append.1 hc with hc|hc
 ·exact h c hc
 ·rw[(List.mem_replicate.1 hc).2];decide
theorem qrQ {p:List UInt8} (h:p.length≤4):(qgs p).length=4:=by
 unfold qgs;rw[zzp,List.length_replicate];omega
theorem qJd (T:Tab) (hT:HT T) (hC:HC T) (s:List UInt8) (hs:s.length≤2048) : ∃p:Int×Int,T.val 441 [.s s]=some (two p):=by
 obtain⟨t,ok,e449,ht⟩:=qJg T hT s hs;obtain⟨a,b,f,e450,hf,hb,ha⟩:=qJi T hT t ht;have e439:=qxU T hT a ha
 have hm:=mxl
 have e425:=ql5 T hT 432 qcf (fun n=>qoa T hT n) b (by rw[hm];omega) [] qok
 rw[qab T (hT 441 F441 rfl) rfl];unfold two;cases ok with
 |false =>
  refine⟨(0,2),?_⟩;simp[F441,Fr.ofArgs,e449,e450]
 |true =>
  cases hi:qjb a with
  |false =>
   rw[hi] at e439;refine⟨(0,2),?_⟩;simp[F441,Fr.ofArgs,e449,e450,e439]
  |true =>
   rw[hi] at e439;obtain⟨a0,ad⟩:=qAj hi;have tail : ∀(p:List UInt8),p.length≤4→(∀c∈p,qcf (cN c)=true)→¬(3<a.length)→∃v:Int,T.val 451 [.s (a++qgs p)]=some (.t [.d (I v),.d .ni],false):=by
    intro p hp hd h3;obtain⟨v,hv⟩:=qyy (l:=a++qgs p) (by simp[a0]) (fun c hc=>by
     rcases List.mem_append.1 hc with hc|hc
     ·exact ad c hc
     ·exact qGO hd c hc)
    refine⟨v,?_⟩;rw[hC.ato];simp only[qln];rw[if_pos (by rw[zzp,qrQ hp];omega),hv]
   cases f with
   |false =>
    have hbn:=hf rfl
    subst hbn;by_cases h3:3<a.length
    ·have g3:(3:Int)<a.length:=by omega
     refine⟨(0,1),?_⟩;simp[F441,Fr.ofArgs,e449,e450,e439,g3]
    ·have g3 : ¬((3:Int)<a.length):=by omega
     obtain⟨v,ev⟩:=tail [] (by simp) (by simp) h3
     have lp:=fun k r fr H => @qvv T a [] (by simp) k r fr H
     have pl:=qrQ (p:=[]) (by simp)
     generalize qgs []=q at *
     have hlen:a.length+4<4611686018427387904:=by omega
     by_cases hv:1000000<v
     ·refine⟨(0,1),?_⟩;simp[F441,Fr.ofArgs,e449,e450,e439,g3];refine lp _ _ _ _ ?_ (by simp)
      simp[pl,hlen,ev,hv]
     ·refine⟨(v,0),?_⟩;simp[F441,Fr.ofArgs,e449,e450,e439,g3];refine lp _ _ _ _ ?_ (by simp)
      simp[pl,hlen,ev,hv]
   |true =>
    by_cases b0:b=[]
    ·refine⟨(0,2),?_⟩;simp[F441,Fr.ofArgs,e449,e450,e439,b0]
    have gb0:=qg4 b0
    by_cases b4:4<b.length
    ·have g4:(4:Int)<b.length:=by omega
     refine⟨(0,2),?_⟩;simp[F441,Fr.ofArgs,e449,e450,e439,gb0,g4]
    have g4 : ¬((4:Int)<b.length):=by omega
    by_cases bd:b.takeWhile (fun c=>qcf (cN c))=b
    ·rw[bd] at e425;have hbd : ∀c∈b,qcf (cN c)=true:=fun c hc=>by
      rw[←bd] at hc;exact qn5 (p:=fun c=>qcf (cN c)) hc
     have l0:b.length≠0:=fun h=>b0 (List.length_eq_zero_iff.1 h)
     have w:IntKind.i64.wrap ((b.length:Int)-1)=((b.length-1:Nat):Int):=by rw[wrI (by omega) (by omega)];omega
     obtain⟨j,hj⟩ : ∃j,b.length-1=j:=⟨_,rfl⟩;rw[hj] at w;have hjl:j<b.length:=by omega
     obtain⟨c,hc⟩ : ∃c,b[j]? = some c:=⟨_,zze hjl⟩;by_cases bc:((c.toNat:Nat):Int)=48
     ·refine⟨(0,2),?_⟩;simp[F441,Fr.ofArgs,e449,e450,e439,gb0,g4,e425,w,hc,↓qbw,↓qbX,bc]
     ·have gbc:=qac bc
      by_cases h3:3<a.length
      ·have g3:(3:Int)<a.length:=by omega
       refine⟨(0,1),?_⟩;simp[F441,Fr.ofArgs,e449,e450,e439,gb0,g4,e425,w,hc,↓qbw,↓qbX,gbc,g3]
      ·have g3 : ¬((3:Int)<a.length):=by omega
       obtain⟨v,ev⟩:=tail b (by omega) hbd h3
       have lp:=fun k r fr H => @qvv T a b (by omega) k r fr H
       have pl:=qrQ (p:=b) (by omega)
       generalize qgs b=q at *
       have hlen:a.length+4<4611686018427387904:=by omega
       by_cases hv:1000000<v
       ·refine⟨(0,1),?_⟩;simp[F441,Fr.ofArgs,e449,e450,e439,gb0,g4,e425,w,hc,↓qbw,↓qbX,gbc,g3];refine lp _ _ _ _ ?_ (by simp)
        simp[pl,hlen,ev,hv]
       ·refine⟨(v,0),?_⟩;simp[F441,Fr.ofArgs,e449,e450,e439,gb0,g4,e425,w,hc,↓qbw,↓qbX,gbc,g3];refine lp _ _ _ _ ?_ (by simp)
        simp[pl,hlen,ev,hv]
    ·have gbd:=qg4 bd
     generalize b.takeWhile (fun c=>qcf (cN c))=w at *
     refine⟨(0,2),?_⟩;simp[F441,Fr.ofArgs,e449,e450,e439,gb0,g4,e425,gbd]
structure ATok where
 (Kind Line:Int)
 Text:List UInt8
def ATok.cells (x:ATok):List DV:=[I x.Kind,I x.Line,.s x.Text]
def ATok.dv (x:ATok):DV:=.a [I x.Kind,I x.Line,.s x.Text]
@[simp] theorem ATok.fits (x:ATok):Sim.fits (K1 3) (.d (ATok.dv x))=true:=rfl
@[simp] theorem ATok.purT (x:ATok) (H:Heap):Sim.purT H (.d (ATok.dv x))=some (.d (ATok.dv x),false):=rfl
@[simp] theorem ATok.clen (x:ATok):(ATok.dv x).cells.length=3:=rfl
@[simp] theorem ATok.aof (x:ATok):DV.a (ATok.cells x)=ATok.dv x:=rfl
@[simp] theorem ATok.ccl (x:ATok):(ATok.cells x).length=3:=rfl
@[simp] theorem ATok.c0 (x:ATok):(ATok.dv x).cells[0]? = some (I x.Kind):=rfl
@[simp] theorem ATok.c1 (x:ATok):(ATok.dv x).cells[1]? = some (I x.Line):=rfl
@[simp] theorem ATok.c2 (x:ATok):(ATok.dv x).cells[2]? = some (.s x.Text):=rfl
def qhV (k:Int) (s:List UInt8) (e:Int):PV×Bool:=(.t [.d (.a [I k,I 0,.s s]),.d (I e)],false)
theorem qGP (T:Tab) (hC:HC T) (s:List UInt8) (hs:s.length≤2048):(∃v:Int,T.val 440 [.s s,I 10,I 64]=some (.t [.d (I v),.d .ni],false))∨(∃v:Int,T.val 440 [.s s,I 10,I 64]=some (.t [.d (I v),.d (.tok 0)],false)):=by
 rw[hC.par];simp only[qlX];rw[if_pos (by refine⟨?_,?_,?_⟩<;>first|trivial|omega)]
 cases Lib.parseIntB 64 s with
 |ok v=>exact .inl ⟨v,rfl⟩
 |range=>exact .inr ⟨_,rfl⟩
 | _ => exact .inr ⟨_,rfl⟩
theorem qJa (T:Tab) (hT:HT T) (hC:HC T) (s:List UInt8) (hs:s.length≤2048) : ∃k t e,T.val 433 [.s s]=some (qhV k t e)∧(e=0→t=s)∧k≠1:=by
 have e439:=qxU T hT s hs
 obtain⟨p,e441⟩:=qJd T hT hC s hs;unfold two at e441;cases hi:qjb s with
 |true =>
  rw[hi] at e439;rcases qGP T hC s hs with ⟨v,e⟩|⟨v,e⟩
  ·refine⟨2,s,0,?_,fun _=>rfl,by decide⟩
   rw[qab T (hT 433 qge rfl) rfl];simp[qge,Fr.ofArgs,e439,e,↓qta,qgr,↓qan,↓qaq,↓qap,putAt,mkA,qag,qak,qam,qbM,qhV]
  ·refine⟨0,[],6,?_,(fun h=>by cases h),by decide⟩
   rw[qab T (hT 433 qge rfl) rfl];simp[qge,Fr.ofArgs,e439,e,↓qta,qgr,↓qan,↓qaq,mkA,qag,qhV]
 |false =>
  rw[hi] at e439;by_cases h0:p.2=0
  ·refine⟨3,s,0,?_,fun _=>rfl,by decide⟩
   rw[qab T (hT 433 qge rfl) rfl];simp[qge,Fr.ofArgs,e439,e441,h0,↓qan,↓qaq,↓qap,putAt,mkA,qag,qak,qam,qbM,qhV]
  ·have g0:=qac h0
   by_cases h1:p.2=1
   ·refine⟨0,[],6,?_,(fun h=>by cases h),by decide⟩
    rw[qab T (hT 433 qge rfl) rfl];simp[qge,Fr.ofArgs,e439,e441,h1,↓qan,↓qaq,mkA,qag,qhV]
   ·have g1:=qac h1
    refine⟨0,[],2,?_,(fun h=>by cases h),by decide⟩
    rw[qab T (hT 433 qge rfl) rfl];simp[qge,Fr.ofArgs,e439,e441,g0,g1,↓qan,↓qaq,mkA,qag,qhV]
end Go.Sim
end
section
namespace Go.Sim
attribute [local simp] gc Fr.keep qaf qae qad PV.refs PV.refsL qah gcH qaj Obj.refs PV.ren PV.renL Obj.ren Heap.obj Fr.ren gh zzd
set_option maxRecDepth 10000
set_option maxHeartbeats 4000000
def wordsL:List (List UInt8):=[[112,114,111,100,117,99,116],[99,117,114,114,101,110,99,121],[99,97,108,101,110,100,97,114],[102,114,111,109],[101,118,101,114,121],[111,118,101,114,100,114,97,102,116],[116,97,120],[99,114,101,100,105,116],[100,101,98,105,116],[109,97,114,103,105,110,97,108],[119,104,111,108,101],[97,99,116,51,54,48],[97,99,116,51,54,53],[97,99,116,117,97,108],[116,104,105,114,116,121],[100,111,119,110],[117,112],[102,108,111,111,114],[99,101,105,108],[104,97,108,102,95,117,112],[104,97,108,102,95,101,118,101,110],[107,101,101,112],[100,114,111,112],[102,101,101],[108,105,109,105,116],[119,104,101,110],[97,109,111,117,110,116,95,111,102],[115,105,110,103,108,101],[100,97,105,108,121],[109,111,110,116,104,108,121],[109,111,110,116,104],[114,101,116,117,114,110],[99,108,111,115,101],[101,118,101,110,116],[105,102],[116,104,101,110],[101,108,115,101],[97,110,100],[111,114],[110,111,116],[109,105,110],[109,97,120]]
structure HWd (T:Tab):Prop where
 words : ∃(t o:Bool),T.val 438 []=some (.d (.l K0 (wordsL.map DV.s) t),o)
 marks : ∃(ms:List (List UInt8)) (t o:Bool),T.val 435 []=some (.d (.l K0 (ms.map DV.s) t),o)∧ms.length≤1000∧∀m∈ms,m≠[]
def qos (ws:List (List UInt8)) (s:List UInt8) (r:PV×Bool):Prop:=∃n:Int,r=(.d (I n),false)∧(0≤n↔s∈ws)
theorem qJf (T:Tab) (hT:HT T) (ws:List (List UInt8)) (t:Bool) (s:List UInt8) (hn:ws.length≤1000):Ans (qos ws s) (T.val 446 [.l K0 (ws.map DV.s) t,.s s]):=by
 rw[qab T (hT 446 F446 rfl) rfl];simp[F446,Fr.ofArgs];refine qjh (fun i:Nat=>⟨[(8,.d (I i)),(7,.d (I ws.length)),(1,.d (.s s)),(0,.d (.l K0 (ws.map DV.s) t))],[]⟩) (fun i=>i≤ws.length∧¬s∈ws.take i) (fun i=>ws.length-i) ?_ 0 ⟨Nat.zero_le _,by simp⟩ (by simp)
 rintro B-i ⟨hi,hni⟩ hx;by_cases hlt:i<ws.length
 ·have h1:(i:Int)<ws.length:=by omega
  have h3:=wr1 (i:=i) (by omega)
  by_cases hs:s=ws[i]
  ·have hm:s∈ws:=by rw[hs];exact zzs hlt
   simp[h1,hlt,←hs];exact qb0 (show qos ws s _ from⟨_,rfl,⟨fun _=>hm,fun _=>by omega⟩⟩)
  ·have g:=qg4 hs
   have hx':=hx (i+1) ⟨by omega,by
    rw[List.take_succ_eq_append_getElem hlt,List.mem_append,List.mem_singleton];exact fun h=>h.elim hni hs⟩ (by omega)
   simp[h1,hlt,h3,g];exact hx' _ _ (by simp)
 ·have:i=ws.length:=by omega
  subst this;rw[List.take_length] at hni;have h1 : ¬((ws.length:Int)<ws.length):=by omega
  simp;exact qb0 (show qos ws s _ from⟨_,rfl,⟨fun h=>absurd h (by decide),fun h=>absurd h hni⟩⟩)
theorem qI9 (T:Tab) (hT:HT T) (hW:HWd T) (s:List UInt8):T.val 431 [.s s]=some (.d (.b (decide (s∈wordsL))),false):=by
 obtain⟨t,o,e438⟩:=hW.words;obtain⟨r,e446,n,rfl,hn⟩:=qJf T hT wordsL t s (by decide)
 have e437:T.val 437 [.l K0 (wordsL.map DV.s) t,.s s]=some (.d (.b (decide (s∈wordsL))),false):=by
  have q:decide (s∈wordsL)=decide (0≤n):=by rw[decide_eq_decide];exact hn.symm
  rw[q,qab T (hT 437 qkW rfl) rfl];simp[qkW,Fr.ofArgs,e446]
 generalize wordsL.map DV.s=w at *
 generalize decide (s∈wordsL)=b at *
 rw[qab T (hT 431 qkV rfl) rfl];simp[qkV,Fr.ofArgs,e438,e437]
theorem qIQ (T:Tab) (hT:HT T) (s m:List UInt8) : ∃b:Bool,T.val 291 [.s s,.s m]=some (.d (.b b),false)∧(b=true→m.length≤s.length):=by
 rw[qab T (hT 291 qjA rfl) rfl];by_cases h:m.length≤s.length
 ·have g:(m.length:Int)≤s.length:=by omega
  refine⟨(s.take m.length==m),?_,fun _=>h⟩
  simp[qjA,Fr.ofArgs,g]
 ·have g : ¬((m.length:Int)≤s.length):=by omega
  refine⟨false,?_,(fun h=>by cases h)⟩
  simp[qjA,Fr.ofArgs,g]
theorem qIP (T:Tab) (hT:HT T) (s m:List UInt8) : ∃b:Bool,T.val 207 [.s s,.s m]=some (.d (.b b),false)∧(b=true→m.length≤s.length):=by
 obtain⟨b,e,h⟩:=qIQ T hT s m;refine⟨b,?_,h⟩;rw[qab T (hT 207 qkS rfl) rfl];simp[qkS,Fr.ofArgs,e]
def qcm:List UInt8→Bool
 | []=>false
 |c::r=>qfb (cN c)&&(decide ((c::r).takeWhile (fun c=>qb7 (cN c))=c::r)&&(!decide (c::r∈wordsL)&&decide ((c::r).length≤16)))
def qiN (s:List UInt8) (r:PV×Bool):Prop:=∃k t e,r=qhV k t e∧(e=0→t≠[]∧t.length≤s.length)∧(qcm s=true→k=1∧t=s∧e=0)∧(e=0→k=1→t=s→qcm s=true)
theorem qyh (k:K) (v:DV):Cl [some (.box k (.d v))]:=fun r h=>by simp[qad,qaj,Obj.refs,PV.refs] at h
theorem qI6 (T:Tab) (hT:HT T) (hC:HC T) (hW:HWd T) (s:List UInt8) (h0:s≠[]) (hs:s.length≤2048):Ans (qiN s) (T.val 424 [.s s]):=by
 have hm:=mxl
 obtain⟨c,r,rfl⟩ : ∃c r,s=c::r:=by
  cases s with
  |nil=>exact absurd rfl h0
  |cons c r=>exact⟨c,r,rfl⟩
 have w32:IntKind.i32.wrap ((c.toNat:Nat):Int)=cN c:=by
  rw[IntKind.wrap_i32];have:=c.toNat_lt;unfold cN;omega
 have e429:=qxS T hT (cN c)
 have e432:=qoa T hT (cN c)
 have z:Cl [some (.box (K1 3) (.d (.a [I 0,I 0,.s []])))]:=qyh _ _
 cases hl:qfb (cN c) with
 |true =>
  rw[hl] at e429;have e425:=ql5 T hT 430 qb7 (fun n=>qxT T hT n) (c::r) (by rw[hm];omega) _ z
  have hne:(c::r).takeWhile (fun c=>qb7 (cN c))≠[]:=by
   rw[List.takeWhile_cons,if_pos (by unfold qb7;rw[hl];rfl)];simp
  have hle:=qn4 (fun c=>qb7 (cN c)) (c::r)
  have hN:qcm (c::r)=(decide ((c::r).takeWhile (fun c=>qb7 (cN c))=c::r)&&(!decide (c::r∈wordsL)&&decide ((c::r).length≤16))):=by
   show (qfb (cN c)&&_)=_
   rw[hl,Bool.true_and]
  generalize (c::r).takeWhile (fun c=>qb7 (cN c))=w at *
  have e431:=qI9 T hT hW w
  cases hb:decide (w∈wordsL) with
  |true =>
   rw[hb] at e431;rw[qab T (hT 424 F424 rfl) rfl];simp[F424,Fr.ofArgs,↓qbw,↓qbX,↓qaF,↓qaW,w32,e429,e425,e431,↓qan,↓qaq,↓qap,putAt,mkA,qag,qak,qam,qbM];exact qb0 (show qiN _ _ from⟨5,w,0,rfl,fun _=>⟨hne,hle⟩,(fun h=>by
    exfalso
    rw[hN] at h;simp only[zzf,zzq,Bool.not_eq_true',decide_eq_false_iff_not] at h hb;exact h.2.1 (h.1▸hb)),fun _ h=>absurd h (by decide)⟩)
  |false =>
   rw[hb] at e431;by_cases hw:16<w.length
   ·have g:(16:Int)<w.length:=by omega
    rw[qab T (hT 424 F424 rfl) rfl];simp[F424,Fr.ofArgs,↓qbw,↓qbX,↓qaF,↓qaW,w32,e429,e425,e431,g,↓qan,↓qaq,mkA,qag];exact qb0 (show qiN _ _ from⟨0,[],4,rfl,(fun h=>by cases h),(fun h=>by
     exfalso
     rw[hN] at h;simp only[zzf,zzq,Bool.not_eq_true',decide_eq_false_iff_not] at h;rw[h.1] at hw;omega),fun h=>by cases h⟩)
   ·have g : ¬((16:Int)<w.length):=by omega
    rw[qab T (hT 424 F424 rfl) rfl];simp[F424,Fr.ofArgs,↓qbw,↓qbX,↓qaF,↓qaW,w32,e429,e425,e431,g,↓qan,↓qaq,↓qap,putAt,mkA,qag,qak,qam,qbM];exact qb0 (show qiN _ _ from⟨1,w,0,rfl,fun _=>⟨hne,hle⟩,(fun h=>by
     rw[hN] at h;simp only[zzf,zzq,Bool.not_eq_true',decide_eq_false_iff_not] at h;exact⟨rfl,h.1,rfl⟩),fun _ _ h=>by
     rw[hN];simp only[zzf,zzq,Bool.not_eq_true',decide_eq_false_iff_not] at hb⊢;refine⟨h,h▸hb,?_⟩;rw[←h];omega⟩)
 |false =>
  have hN:qcm (c::r)=false:=by
   show (qfb (cN c)&&_)=_
   rw[hl,Bool.false_and]
  have hN1 : ∀{p:Prop},qcm (c::r)=true→p:=fun h=>by rw[hN] at h;cases h
  rw[hl] at e429;cases hd:qcf (cN c) with
  |true =>
   rw[hd] at e432;have e425:=ql5 T hT 434 qjl (fun n=>qJb T hT n) (c::r) (by rw[hm];omega) _ z
   have hne:(c::r).takeWhile (fun c=>qjl (cN c))≠[]:=by
    rw[List.takeWhile_cons,if_pos (by unfold qjl qb7;rw[hl,hd];rfl)];simp
   have hle:=qn4 (fun c=>qjl (cN c)) (c::r)
   generalize (c::r).takeWhile (fun c=>qjl (cN c))=w at *
   obtain⟨k,t,e,e433,ht,hk1⟩:=qJa T hT hC w (by omega)
   unfold qhV at e433;rw[qab T (hT 424 F424 rfl) rfl];simp[F424,Fr.ofArgs,↓qbw,↓qbX,↓qaF,↓qaW,w32,e429,e432,e425,e433];exact qb0 (show qiN _ _ from⟨k,t,e,rfl,(fun h=>by rw[ht h];exact⟨hne,hle⟩),hN1,fun _ h=>absurd h hk1⟩)
  |false =>
   rw[hd] at e432;obtain⟨ms,t,o,e435,hn,hms⟩:=hW.marks;rw[qab T (hT 424 F424 rfl) rfl];simp[F424,Fr.ofArgs,↓qbw,↓qbX,↓qaF,↓qaW,w32,e429,e432,e435];refine qjh (fun i:Nat=>⟨[(36,.d (I i)),(35,.d (I ms.length)),(34,.d (.l K0 (ms.map DV.s) t)),(2,.p 0 0 0),(0,.d (.s (c::r)))],[some (.box (K1 3) (.d (.a [I 0,I 0,.s []])))]⟩) (fun i=>i≤ms.length) (fun i=>ms.length-i) ?_ 0 (Nat.zero_le _) (by simp)
   rintro B-i hi hx;by_cases hlt:i<ms.length
   ·have h1:(i:Int)<ms.length:=by omega
    have h3:=wr1 (i:=i) (by omega)
    obtain⟨b,e207,hb⟩:=qIP T hT (c::r) ms[i];cases b with
    |true =>
     simp[h1,hlt,e207,↓qan,↓qaq,↓qap,putAt,mkA,qag,qak,qam,qbM];exact qb0 (show qiN _ _ from⟨4,ms[i],0,rfl,(fun _=>⟨hms _ (zzs hlt),hb rfl⟩),hN1,fun _ h=>absurd h (by decide)⟩)
    |false =>
     have hx':=hx (i+1) (by omega) (by omega)
     simp[h1,hlt,h3,e207];exact hx' _ _ (by simp)
   ·have:i=ms.length:=by omega
    subst this;have h1 : ¬((ms.length:Int)<ms.length):=by omega
    simp[↓qan,↓qaq,mkA,qag];exact qb0 (show qiN _ _ from⟨0,[],2,rfl,(fun h=>by cases h),hN1,fun h=>by cases h⟩)
end Go.Sim
end
section
namespace Go.Sim
attribute [local simp] gc Fr.keep qaf qae qad PV.refs PV.refsL qah gcH qaj Obj.refs PV.ren PV.renL Obj.ren Heap.obj Fr.ren gh zzd
set_option maxRecDepth 10000
set_option maxHeartbeats 4000000
theorem qvH {R:Type} {a b c:DV} {q:PV→Option R}:bo (mkP (K1 3) [.d a,.d b,.d c]) (.h q)=q (.d (.a [a,b,c])):=rfl
def qjP (s:List UInt8) (r:PV×Bool):Prop:=∃(l:List ATok) (t:Bool) (line e:Int),r=(.t [.d (.l (K1 3) (l.map ATok.dv) t),.d (I line),.d (I e)],false)∧(qcm s=true→e=0∧∃a,l=[a]∧a.Kind=1∧a.Text=s)∧(e=0→∀a,l=[a]→a.Kind=1→a.Text=s→qcm s=true)
theorem qrG {s:List UInt8} (h:qcm s=true):s.length≤16∧s≠[]∧qlj s:=by
 cases s with
 |nil=>cases h
 |cons c r =>
  simp only[qcm,zzf,zzq] at h;exact⟨h.2.2.2,by simp,c,r,rfl,h.1⟩
theorem qI3 (T:Tab) (hT:HT T) (hC:HC T) (hW:HWd T) (s:List UInt8) (hs:s.length≤maxLen):Ans (qjP s) (T.val 420 [.s s]):=by
 have hm:=mxl
 rw[qab T (hT 420 F420 rfl) rfl];by_cases hg:2048<s.length
 ·have g:(2048:Int)<s.length:=by omega
  simp[F420,Fr.ofArgs,g];exact qb0 (show qjP s _ from⟨[],true,0,5,rfl,(fun h=>by have:=(qrG h).1;omega),fun h=>by cases h⟩)
 have g : ¬((2048:Int)<s.length):=by omega
 simp[F420,Fr.ofArgs,g];refine qjh (fun q:List UInt8×List ATok×Int=>⟨[(6,.d (I q.2.2)),(5,qao (K1 3) (q.2.1.map ATok.dv)),(0,.d (.s q.1))],qa7 (K1 3) (q.2.1.map ATok.dv)⟩) (fun q=>q.1.length+q.2.1.length≤2048∧((q.2.1=[]∧q.1=s)∨∃a r,q.2.1=a::r∧(a.Kind=1→a.Text=s→qcm s=true)∧(qcm s=true→r=[]∧a.Kind=1∧a.Text=s∧q.1=[]))) (fun q=>q.1.length) ?_ (s,[],1) ⟨by simp;omega,.inl ⟨rfl,rfl⟩⟩ (by simp[qao,qa7])
 rintro B-⟨u,l,line⟩ ⟨hi,hJ⟩ hx;simp only at hi hJ hx⊢;have hx':=fun (s':List UInt8×List ATok×Int)=>hx s'
 clear hx
 obtain⟨n,hn,e422,hn0⟩:=qI5 T hT u (by omega)
 have e423:T.val 423 [.s (u.take n),.s [10]]=some (.d (.i .i64 (qi0 (u.take n) 10)),false):=by rw[hC.cnt];rfl
 have g1:(n:Int)≤u.length:=by omega
 generalize qi0 (u.take n) 10=cnt at *
 obtain⟨v,hv⟩ : ∃v,u.drop n=v:=⟨_,rfl⟩;have hvl:v.length≤u.length:=by rw[←hv,List.length_drop];omega
 by_cases h0:v=[]
 ·subst h0;cases l with
  |nil =>
   have hu:u=s:=hJ.elim (fun h=>h.2) fun ⟨a,r,h,_⟩=>by cases h
   simp[e422,e423,g1,hv,qao,qa7];exact qb0 (show qjP s _ from⟨[],_,_,_,rfl,(fun h=>by
    have:=qrG h
    rw[hn0 (hu▸this.2.2),hu] at hv;exact absurd hv this.2.1),fun _ a h=>by cases h⟩)
  |cons a l =>
   have ht:(l.map ATok.dv).take l.length=l.map ATok.dv:=List.take_of_length_le (by simp)
   simp[e422,e423,g1,hv,qao,qa7,ht,qaL,pur,qbd,PV.scal,PV.scal1,DV.scal,DV.scal1];obtain⟨q1,q2⟩:(a.Kind=1→a.Text=s→qcm s=true)∧(qcm s=true→l=[]∧a.Kind=1∧a.Text=s∧u=[]):=hJ.elim (fun h=>by cases h.1) fun ⟨a',r',h,h1,h2⟩=>by cases h;exact⟨h1,h2⟩
   exact qb0 (show qjP s _ from⟨a::l,_,_,_,rfl,(fun h=>by
    obtain⟨r1,r2,r3,-⟩:=q2 h;exact⟨rfl,a,by rw[r1],r2,r3⟩),fun _ b h=>by cases h;exact q1⟩)
 have gv:=qg4 h0
 obtain⟨rr,e424,k,t,e,hrr,hte,hnm1,hnm2⟩:=qI6 T hT hC hW v h0 (by omega)
 have hus:l=[]→u=s:=fun hl=>hJ.elim (fun h=>h.2) fun ⟨a,r,h,_⟩=>by rw[hl] at h;cases h
 have hvs:l=[]→qcm s=true→v=s:=fun hl h=>by
  have:=qrG h
  rw[hn0 (hus hl▸this.2.2),hus hl] at hv;exact hv.symm
 have hno:l≠[]→qcm s=false:=fun hl=>by
  cases hq:qcm s with
  |false=>rfl
  |true =>
   exfalso
   rcases hJ with h|⟨a,r,_,_,h⟩
   ·exact hl h.1
   ·rw[(h hq).2.2.2] at hv;exact h0 (by rw[←hv];simp)
 rw[hrr] at e424;unfold qhV at e424;by_cases he:e=0
 ·subst he;obtain⟨t0,tl⟩:=hte rfl;have t1:t.length≠0:=fun h=>t0 (List.length_eq_zero_iff.1 h)
  have g2:(t.length:Int)≤v.length:=by omega
  obtain⟨ln,hln⟩ : ∃ln,IntKind.i64.wrap (line+cnt)=ln:=⟨_,rfl⟩;have hx2:=hx' (v.drop t.length,l++[⟨k,ln,t⟩],ln) ⟨by simp only[List.length_drop,zzp,zzn,List.length_nil];omega,.inr (by
   cases l with
   |nil =>
    refine⟨⟨k,ln,t⟩,[],rfl,(fun hk ht => ?_),fun h => ?_⟩
    ·simp only at hk ht;have hu:=hus rfl
     subst hu;have hl2:u.length≤v.length:=by rw[←ht];exact tl
     have hn1:n=0:=by rw[←hv,List.length_drop] at hl2;have:=List.length_pos_iff.2 t0;rw[ht] at this;omega
     subst hn1;rw[←hv] at hnm2;exact hnm2 rfl hk ht
    ·have hvs:=hvs rfl h
     obtain⟨r1,r2,-⟩:=hnm1 (by rw[hvs];exact h)
     exact⟨rfl,r1,by rw[←hvs];exact r2,by rw[r2];simp⟩
   |cons a l =>
    refine⟨a,l++[⟨k,ln,t⟩],rfl,?_,fun h=>by rw[hno (by simp)] at h;cases h⟩
    rcases hJ with h|⟨a',r',h,h1,-⟩
    ·cases h.1
    ·cases h;exact h1)⟩ (by simp only[List.length_drop];omega)
  clear hx'
  have ed:ATok.dv ⟨k,ln,t⟩ = .a [I k,I ln,.s t]:=rfl
  simp only[List.map_append,zzu,List.map_nil,ed] at hx2;cases l with
  |nil =>
   simp only[List.map_nil,List.nil_append,qao,qa7] at hx2⊢;simp[e422,e423,g1,hv,gv,e424,hln,g2,qb9,qbf,qvH,putAt,qak,qam,List.take_length];exact hx2 _ _ (by simp)
  |cons a l =>
   simp only[zzu,List.cons_append,qao,qa7] at hx2⊢;simp only[zzn] at hi;have h5:(l.length+1+1)*32≤140737488355328:=by omega
   have ht:(l.map ATok.dv).take l.length=l.map ATok.dv:=List.take_of_length_le (by simp)
   simp[e422,e423,g1,hv,gv,e424,hln,g2,h5,ht,qb9,qbf,qvH,putAt,qak,qam,List.take_length];exact hx2 _ _ (by simp)
 ·have ge:=qac he
  cases l with
  |nil =>
   simp[e422,e423,g1,hv,gv,e424,ge,bne,qao,qa7];exact qb0 (show qjP s _ from⟨[],true,_,_,rfl,(fun h=>absurd (hnm1 (by rw[hvs rfl h];exact h)).2.2 he),fun h=>absurd h he⟩)
  |cons a l =>
   simp[e422,e423,g1,hv,gv,e424,ge,bne,qao,qa7];exact qb0 (show qjP s _ from⟨[],true,_,_,rfl,(fun h=>by rw[hno (by simp)] at h;cases h),fun h=>absurd h he⟩)
theorem qxP (T:Tab) (hT:HT T) (hC:HC T) (hW:HWd T) (s:List UInt8) (hs:s.length≤maxLen):T.val 415 [.s s]=some (.d (.b (qcm s)),false):=by
 obtain⟨r,e420,l,t,line,e,hr,k1,k2⟩:=qI3 T hT hC hW s hs;rw[hr] at e420;cases hn:qcm s with
 |true =>
  obtain⟨rfl,a,rfl,ha,hb⟩:=k1 hn;rw[qab T (hT 415 qgO rfl) rfl];simp[qgO,Fr.ofArgs,e420,ha,hb]
 |false =>
  rw[qab T (hT 415 qgO rfl) rfl];by_cases he:e=0
  ·subst he;cases l with
   |nil=>simp[qgO,Fr.ofArgs,e420]
   |cons a l =>
    cases l with
    |nil =>
     by_cases hk:a.Kind=1
     ·have ht : ¬a.Text=s:=fun h=>by have:=k2 rfl a rfl hk h;rw[hn] at this;cases this
      have gt:=qg4 ht
      simp[qgO,Fr.ofArgs,e420,hk,gt]
     ·have gk:=qac hk
      simp[qgO,Fr.ofArgs,e420,gk]
    |cons b l =>
     have g1:((l.length:Int)+1+1==1)=false:=qac (by omega)
     have g2 : ¬((l.length:Int)+1+1=1):=by omega
     simp[qgO,Fr.ofArgs,e420,g1]
  ·have ge:=qac he
   simp[qgO,Fr.ofArgs,e420,ge]
theorem hnm (T:Tab) (hT:HT T) (hC:HC T) (hW:HWd T):HNm T:=fun s hs=>⟨_,qxP T hT hC hW s hs⟩
end Go.Sim
end
section
namespace Go.Sim
attribute [local simp] gc Fr.keep qaf qae qad PV.refs PV.refsL qah gcH qaj Obj.refs PV.ren PV.renL Obj.ren Heap.obj Fr.ren gh zzd
set_option maxRecDepth 10000
set_option maxHeartbeats 4000000
theorem qJZ (T:Tab) (hS:HS T) (hW : ∃t o:Bool,T.val 968 []=some (.d (.l K0 (wordsL.map DV.s) t),o)) (s:List UInt8):T.val 954 [.s s]=some (.d (.b (decide (s∈wordsL))),false):=by
 obtain⟨t,o,e⟩:=hW;have hn:wordsL.length≤1000:=by decide
 generalize wordsL=ws at *
 rw[qab T (hS 954 F954 rfl) rfl];simp[F954,Fr.ofArgs,e];refine qbN (fun i:Nat=>⟨[(4,.d (I i)),(3,.d (.l K0 (ws.map DV.s) t)),(0,.d (.s s))],[]⟩) (fun i=>i≤ws.length∧¬s∈ws.take i) (fun i=>ws.length-i) ?_ 0 ⟨Nat.zero_le _,by simp⟩ (by simp)
 rintro B-i ⟨hi,hni⟩ hx;by_cases hlt:i<ws.length
 ·have h1:(i:Int)<ws.length:=by omega
  have h3:=wr1 (i:=i) (by omega)
  by_cases hs:ws[i]=s
  ·have hm:s∈ws:=by rw[←hs];exact zzs hlt
   simp[h1,hlt,hs,hm]
  ·have g:=qg4 hs
   have hx':=hx (i+1) ⟨by omega,by
    rw[List.take_succ_eq_append_getElem hlt,List.mem_append,List.mem_singleton];exact fun h=>h.elim hni fun h=>hs h.symm⟩ (by omega)
   simp[h1,hlt,h3,g];exact hx' _ _ (by simp)
 ·have:i=ws.length:=by omega
  subst this;rw[List.take_length] at hni;have h1 : ¬((ws.length:Int)<ws.length):=by omega
  simp[hni]
theorem qxn {α:Type} {p:α→Bool} : ∀{s:List α},(∀v∈s,p v=true)→s.takeWhile p=s
 | [],_=>rfl
 |c::r,h=>by rw[List.takeWhile_cons,if_pos (h c (by simp)),qxn fun v hv=>h v (by simp[hv])]
theorem qB7 (T:Tab) (s:List UInt8) (hs:s.length≤100) {k:KC (PV×Bool)} {r:Option (PV×Bool)} {fr:Fr} {H:Heap}
  (he:s.takeWhile (fun c=>qb7 (cN c))=s→k (.exit 0) [(25,.d (.b false)),(3,.d (I s.length)),(0,.d (.s s))] []=r)
  (hr:s.takeWhile (fun c=>qb7 (cN c))≠s→∀fr J,fr.get 2 = .d (.b false)→qar fr=[]→k .ret fr J=r)
  (h0:gc [0,3] 0 ⟨fr,H⟩=⟨[(3,.d (I 0)),(0,.d (.s s))],[]⟩) :
  kC T.env 0 fr H (.h (.loop [0,3] qh6,k))=r:=by
 refine qbN (fun i:Nat=>⟨[(3,.d (I i)),(0,.d (.s s))],[]⟩) (fun i=>i≤s.length∧∀v∈s.take i,qb7 (cN v)=true) (fun i=>s.length-i) ?_ 0 ⟨Nat.zero_le _,by simp⟩ h0
 rintro B-i ⟨hi,ha⟩ hx;by_cases hlt:i<s.length
 ·have h1:(i:Int)<s.length:=by omega
  have h3:=wr1 (i:=i) (by omega)
  have go:qb7 (cN s[i])=true→∀fr H,gc [0,3] 0 ⟨fr,H⟩=⟨[(3,.d (I ((i+1:Nat):Int))),(0,.d (.s s))],[]⟩→kC T.env 0 fr H (.h (.loop [0,3] B,k))=r:=fun hb=>hx (i+1) ⟨by omega,by
   rw[List.take_succ_eq_append_getElem hlt];intro v hv;rcases List.mem_append.1 hv with hv|hv
   ·exact ha v hv
   ·rw[List.mem_singleton.1 hv];exact hb⟩ (by omega)
  have no:qb7 (cN s[i])=false→∀fr J,fr.get 2 = .d (.b false)→qar fr=[]→k .ret fr J=r:=fun hb=>hr fun h=>by
   have hm:s[i]∈s.takeWhile (fun c=>qb7 (cN c)):=by rw[h];exact zzs hlt
   have:=qn5 (p:=fun c=>qb7 (cN c)) hm
   rw[hb] at this;cases this
  clear hx hr
  unfold qb7 qfb qcf cN at go no;generalize hc:((s[i].toNat:Nat):Int)=x at *
  by_cases a1:x<97
  ·by_cases a3:x<48
   ·have n95 : ¬x=95:=by omega
    have g95:=qac n95
    have no:=no (by simp;omega)
    simp[h1,hlt,↓qbw,↓qbX,hc,a1,a3,g95,bne];exact no _ _ (by simp[Fr.get]) (by simp[qar,gh])
   ·by_cases a4:57<x
    ·by_cases a5:x=95
     ·have go:=go (by simp;omega)
      simp[h1,hlt,h3,↓qbw,↓qbX,hc,a5,bne];exact go _ _ (by simp)
     ·have g95:=qac a5
      have no:=no (by simp;omega)
      simp[h1,hlt,↓qbw,↓qbX,hc,a1,a3,a4,g95,bne];exact no _ _ (by simp[Fr.get]) (by simp[qar,gh])
    ·have go:=go (by simp;omega)
     simp[h1,hlt,h3,↓qbw,↓qbX,hc,a1,a3,a4];exact go _ _ (by simp)
  ·by_cases a2:122<x
   ·have a3 : ¬x<48:=by omega
    have a4:57<x:=by omega
    have n95 : ¬x=95:=by omega
    have g95:=qac n95
    have no:=no (by simp;omega)
    simp[h1,hlt,↓qbw,↓qbX,hc,a1,a2,a3,a4,g95,bne];exact no _ _ (by simp[Fr.get]) (by simp[qar,gh])
   ·have go:=go (by simp;omega)
    simp[h1,hlt,h3,↓qbw,↓qbX,hc,a1,a2];exact go _ _ (by simp)
 ·have:i=s.length:=by omega
  subst this;rw[List.take_length] at ha;have he':=he (qxn ha)
  have h1 : ¬((s.length:Int)<s.length):=by omega
  simp;exact he'
def qlV:List UInt8→Bool
 | []=>false
 |c::r=>qfb (cN c)&&(decide ((c::r).length≤16)&&decide ((c::r).takeWhile (fun c=>qb7 (cN c))=c::r))
theorem qJm (T:Tab) (hS:HS T) (s:List UInt8):T.val 512 [.s s]=some (.d (.b (qlV s)),false):=by
 rw[qab T (hS 512 F512 rfl) rfl];cases s with
 |nil=>simp[F512,Fr.ofArgs,qlV]
 |cons c r =>
  rw[show qlV (c::r)=(qfb (cN c)&&(decide ((c::r).length≤16)&&decide ((c::r).takeWhile (fun c=>qb7 (cN c))=c::r))) from rfl]
  have l1 : ¬((r.length:Int)+1<1):=by omega
  by_cases l2:16<(r.length:Int)+1
  ·have d:decide ((c::r).length≤16)=false:=decide_eq_false (by simp only[zzn];omega)
   rw[d,Bool.false_and,Bool.and_false];simp[F512,Fr.ofArgs,l1,l2]
  ·have d:decide ((c::r).length≤16)=true:=decide_eq_true (by simp only[zzn];omega)
   have lp:=fun k r' fr H => @qB7 T (c::r) (by simp only[zzn];omega) k r' fr H
   rw[d,Bool.true_and];unfold qfb;have hc:((c.toNat:Nat):Int)=cN c:=rfl
   generalize hbb:decide ((c::r).takeWhile (fun c=>qb7 (cN c))=c::r)=bb
   by_cases a1:cN c<97
   ·have d1:decide (97≤cN c)=false:=decide_eq_false (by omega)
    rw[d1,Bool.false_and,Bool.false_and];simp[F512,Fr.ofArgs,l1,l2,↓qbw,↓qbX,hc,a1]
   ·have d1:decide (97≤cN c)=true:=decide_eq_true (by omega)
    rw[d1,Bool.true_and];by_cases a2:122<cN c
    ·have d2:decide (cN c≤122)=false:=decide_eq_false (by omega)
     rw[d2,Bool.false_and];simp[F512,Fr.ofArgs,l1,l2,↓qbw,↓qbX,hc,a1,a2]
    ·have d2:decide (cN c≤122)=true:=decide_eq_true (by omega)
     rw[d2,Bool.true_and];simp[F512,Fr.ofArgs,l1,l2,↓qbw,↓qbX,hc,a1,a2];refine lp _ _ _ _ (fun h => ?_) (fun h fr J h2 hg => ?_) (by simp)
     ·have hb:bb=true:=by rw[←hbb];exact decide_eq_true h
      subst hb;simp
     ·have hb:bb=false:=by rw[←hbb];exact decide_eq_false h
      subst hb;simp[h2,hg]
theorem qJV (T:Tab) (hS:HS T) (hW : ∃t o:Bool,T.val 968 []=some (.d (.l K0 (wordsL.map DV.s) t),o)) (s:List UInt8):T.val 923 [.s s]=some (.d (.b (qcm s)),false):=by
 have e1:=qJm T hS s
 have e2:=qJZ T hS hW s
 have q:qcm s=(qlV s && !decide (s∈wordsL)):=by
  cases s with
  |nil=>rfl
  |cons c r =>
   show (qfb (cN c)&&(decide ((c::r).takeWhile (fun c=>qb7 (cN c))=c::r)&&(!decide (c::r∈wordsL)&&decide ((c::r).length≤16))))=((qfb (cN c)&&(decide ((c::r).length≤16)&&decide ((c::r).takeWhile (fun c=>qb7 (cN c))=c::r))) && !decide (c::r∈wordsL))
   cases qfb (cN c)<;>cases decide ((c::r).takeWhile (fun c=>qb7 (cN c))=c::r)<;>cases decide (c::r∈wordsL)<;>cases decide ((c::r).length≤16)<;>rfl
 rw[q];generalize qlV s=a at *
 generalize decide (s∈wordsL)=b at *
 rw[qab T (hS 923 qjK rfl) rfl];cases a with
 |true=>simp[qjK,Fr.ofArgs,e1,e2]
 |false=>simp[qjK,Fr.ofArgs,e1]
end Go.Sim
end
section
namespace Go.Sim
attribute [local simp] gc Fr.keep qaf qae qad PV.refs PV.refsL qah gcH qaj Obj.refs PV.ren PV.renL Obj.ren Heap.obj Fr.ren gh zzd
set_option maxRecDepth 10000
set_option maxHeartbeats 4000000
theorem qJR (T:Tab) (hT:HU T) (x:AExpr) (hx:x.ok) (m:Int) (h0:0≤m) (h1:m≤1000):T.val 919 [x.dv,I m]=some (.d (.b (decide (m<qav x.dv m))),false):=by
 rw[qab T (hT 919 qh2 rfl) rfl];have e:=qsB T hT _ x (Nat.lt_succ_self _) hx m h0 h1
 simp[qh2,Fr.ofArgs,e]
structure HNx (T:Tab):Prop where
 hT:HT T
 hS:HS T
 hU:HU T
 hC:HC T
 hW:HWd T
 wr : ∃t o:Bool,T.val 968 []=some (.d (.l K0 (wordsL.map DV.s) t),o)
theorem qCk (T:Tab) (L:List (List UInt8)) (nm:List UInt8→Bool) (hn : ∀s,T.val 923 [.s s]=some (.d (.b (nm s)),false)) (hL:L.length≤1000) {k:KC (PV×Bool)} {r:Option (PV×Bool)} {fr:Fr} {H:Heap}
  (he:(∀y∈L,nm y=true)→k (.exit 0) [(20,.d (.b false)),(4,.d (I L.length)),(3,.d (.l K0 (L.map DV.s) false))] []=r)
  (hr : ¬(∀y∈L,nm y=true)→∀fr J,fr.get 2 = .d (I 4)→qar fr=[]→k .ret fr J=r)
  (h0:gc [3,4] 0 ⟨fr,H⟩=⟨[(4,.d (I 0)),(3,.d (.l K0 (L.map DV.s) false))],[]⟩) :
  kC T.env 0 fr H (.h (.loop [3,4] qmA,k))=r:=by
 refine qbN (fun i:Nat=>⟨[(4,.d (I i)),(3,.d (.l K0 (L.map DV.s) false))],[]⟩) (fun i=>i≤L.length∧∀v∈L.take i,nm v=true) (fun i=>L.length-i) ?_ 0 ⟨Nat.zero_le _,by simp⟩ h0
 rintro B-i ⟨hi,ha⟩ hx;by_cases hlt:i<L.length
 ·have h1:(i:Int)<L.length:=by omega
  have h3:=wr1 (i:=i) (by omega)
  have e:=hn L[i]
  cases hk:nm L[i] with
  |true =>
   rw[hk] at e;have hx':=hx (i+1) ⟨by omega,by
    rw[List.take_succ_eq_append_getElem hlt];intro v hv;rcases List.mem_append.1 hv with hv|hv
    ·exact ha v hv
    ·rw[List.mem_singleton.1 hv];exact hk⟩ (by omega)
   simp[h1,hlt,h3,e];exact hx' _ _ (by simp)
  |false =>
   rw[hk] at e;have hr':=hr fun h=>by have:=h _ (zzs hlt);rw[hk] at this;cases this
   simp[h1,hlt,e];exact hr' _ _ (by simp[Fr.get]) (by simp[qar,gh])
 ·have:i=L.length:=by omega
  subst this;rw[List.take_length] at ha;have he':=he ha
  have h1 : ¬((L.length:Int)<L.length):=by omega
  simp;exact he'
theorem qJB (T:Tab) (hN:HNx T) (x:AExpr) (hx:x.ok) (hc:qav x.dv 100≤100) : ∃n:Int,T.val 399 [x.dv]=some (.d (I n),false)∧T.val 859 [x.dv]=some (.d (I n),false)∧(n=0→T.val 921 [x.dv]=some (.d (.b true),false)):=by
 obtain⟨hT,hS,hU,hC,hW,wr⟩:=hN;have m1:=qzf _ x (Nat.lt_succ_self _) hx 64 100 (by decide) (by decide)
 have e405:=qIV T hT _ x (Nat.lt_succ_self _) hx 100 (by decide) (by decide) hc
 have e919:=qJR T hU x hx 64 (by decide) (by decide)
 obtain⟨v,e406,e920⟩:=qJS T hS hT _ x (Nat.lt_succ_self _) hx;obtain⟨b,e921,q408,-⟩:=qx0 T hS hT _ x (Nat.lt_succ_self _) hx;obtain⟨c,q409,a922⟩:=qJU T hS hT qcm (fun s hs=>qxP T hT hC hW s hs) _ x (Nat.lt_succ_self _) hx
 have q408:=q408 [some (.box (K1 4) (.d x.dv))] (by intro r hr;simp[qad,qaj,Obj.refs,PV.refs] at hr)
 have q409:=q409 [some (.box (K1 4) (.d x.dv))] (by intro r hr;simp[qad,qaj,Obj.refs,PV.refs] at hr)
 by_cases hg:(64:Int)<qav x.dv 64
 ·have hg2:=m1.2 hg
  refine⟨5,?_,?_,fun h=>absurd h (by decide)⟩
  ·rw[qab T (hT 399 qfM rfl) rfl];simp[qfM,Fr.ofArgs,e405,hg2]
  ·rw[qab T (hS 859 F859 rfl) rfl];simp[F859,Fr.ofArgs,e919,hg]
 have hq:=m1.1 (by omega)
 have hg2 : ¬(64:Int)<qav x.dv 100:=by omega
 by_cases h8:8<v
 ·refine⟨5,?_,?_,fun h=>absurd h (by decide)⟩
  ·rw[qab T (hT 399 qfM rfl) rfl];simp[qfM,Fr.ofArgs,e405,hg2,e406,h8]
  ·rw[qab T (hS 859 F859 rfl) rfl];simp[F859,Fr.ofArgs,e919,hg,e920,h8]
 cases b with
 |false =>
  refine⟨1,?_,?_,fun h=>absurd h (by decide)⟩
  ·rw[qab T (hT 399 qfM rfl) rfl];simp[qfM,Fr.ofArgs,e405,hg2,e406,h8,q408]
  ·rw[qab T (hS 859 F859 rfl) rfl];simp[F859,Fr.ofArgs,e919,hg,e920,h8,e921]
 |true =>
  obtain⟨r,e922,L,own,rfl,hL,hw,hcL⟩:=a922 64 (by decide) (by decide) (by omega)
  have lp:=fun k r fr H => @qCk T L qcm (fun s=>qJV T hS wr s) (by omega) k r fr H
  cases c with
  |true =>
   refine⟨0,?_,?_,fun _=>e921⟩
   ·rw[qab T (hT 399 qfM rfl) rfl];simp[qfM,Fr.ofArgs,e405,hg2,e406,h8,q408,q409]
   ·rw[qab T (hS 859 F859 rfl) rfl];simp[F859,Fr.ofArgs,e919,hg,e920,h8,e921,e922];refine lp _ _ _ _ (fun h => ?_) (fun h fr J h2 hg => ?_) (by simp)
    ·simp
    ·exact absurd (hcL.1 rfl) h
  |false =>
   refine⟨4,?_,?_,fun h=>absurd h (by decide)⟩
   ·rw[qab T (hT 399 qfM rfl) rfl];simp[qfM,Fr.ofArgs,e405,hg2,e406,h8,q408,q409]
   ·rw[qab T (hS 859 F859 rfl) rfl];simp[F859,Fr.ofArgs,e919,hg,e920,h8,e921,e922];refine lp _ _ _ _ (fun h => ?_) (fun h fr J h2 hg => ?_) (by simp)
    ·exact absurd (hcL.2 h) (by decide)
    ·simp[h2,hg]
end Go.Sim
end
section
namespace Go.Sim
attribute [local simp] gc Fr.keep qaf qae qad PV.refs PV.refsL qah gcH qaj Obj.refs PV.ren PV.renL Obj.ren Heap.obj Fr.ren gh zzd
set_option maxRecDepth 10000
set_option maxHeartbeats 4000000
def qb2 (s:List UInt8):List AVar→Int×Int
 | []=>(0,4)
 |v::r=>if v.Name=s then (if qbL v.Typ=true then (v.Typ,0) else (0,3)) else qb2 s r
theorem qsD (s:List UInt8) : ∀(a b:List AVar),(∀v∈a,v.Name≠s)→qb2 s (a++b)=qb2 s b
 | [],_,_=>rfl
 |v::a,b,h=>by
  rw[List.cons_append,qb2,if_neg (h v (by simp))]
  exact qsD s a b fun w hw=>h w (by simp[hw])
theorem qmg (s:List UInt8) : ∀(a:List AVar),(∀v∈a,v.Name≠s)→qb2 s a=(0,4)
 | [],_=>rfl
 |v::a,h=>by
  rw[qb2,if_neg (h v (by simp))]
  exact qmg s a fun w hw=>h w (by simp[hw])
theorem qix {α:Type} (l:List α) (i:Nat) (h:i<l.length):l=l.take i++l[i]::l.drop (i+1):=by
 rw[List.getElem_cons_drop,List.take_append_drop]
theorem qB5 (T:Tab) (hT:HT T) (s:List UInt8) (vs:List AVar) (t:Bool) (hn:vs.length≤1000) {k:KC (PV×Bool)} {r:Option (PV×Bool)} {fr:Fr} {H:Heap}
  (he:qb2 s vs=(0,4)→k (.exit 0) [(11,.d (.b false)),(10,.d (I vs.length)),(9,.d (I vs.length)),(8,.d (.l (K1 2) (vs.map AVar.dv) t)),(0,.d (.s s))] []=r)
  (hr : ∀fr J,fr.get 4 = .d (I (qb2 s vs).1)→fr.get 5 = .d (I (qb2 s vs).2)→qar fr=[]→k .ret fr J=r)
  (h0:gc [0,8,9,10] 0 ⟨fr,H⟩=⟨[(10,.d (I 0)),(9,.d (I vs.length)),(8,.d (.l (K1 2) (vs.map AVar.dv) t)),(0,.d (.s s))],[]⟩) :
  kC T.env 0 fr H (.h (.loop [0,8,9,10] qlf,k))=r:=by
 refine qbN (fun i:Nat=>⟨[(10,.d (I i)),(9,.d (I vs.length)),(8,.d (.l (K1 2) (vs.map AVar.dv) t)),(0,.d (.s s))],[]⟩) (fun i=>i≤vs.length∧∀v∈vs.take i,v.Name≠s) (fun i=>vs.length-i) ?_ 0 ⟨Nat.zero_le _,by simp⟩ h0
 rintro B-i ⟨hi,ha⟩ hx;by_cases hlt:i<vs.length
 ·have h1:(i:Int)<vs.length:=by omega
  have h3:=wr1 (i:=i) (by omega)
  have e:=qxQ T hT vs[i].Typ
  by_cases hs:vs[i].Name=s
  ·have hv:qb2 s vs=if qbL vs[i].Typ=true then (vs[i].Typ,0) else (0,3):=by
    conv=>lhs;rw[qix vs i hlt,qsD s _ _ ha,qb2,if_pos hs]
   rw[hv] at hr;cases hk:qbL vs[i].Typ with
   |true =>
    rw[hk] at e hr;simp only[if_true] at hr;simp[h1,hlt,hs,e];exact hr _ _ (by simp[Fr.get]) (by simp[Fr.get]) (by simp[qar,gh])
   |false =>
    rw[hk] at e hr;simp only[zzg,if_false] at hr;simp[h1,hlt,hs,e];exact hr _ _ (by simp[Fr.get]) (by simp[Fr.get]) (by simp[qar,gh])
  ·have g:=qg4 hs
   have hx':=hx (i+1) ⟨by omega,by
    rw[List.take_succ_eq_append_getElem hlt];intro v hv;rcases List.mem_append.1 hv with hv|hv
    ·exact ha v hv
    ·rw[List.mem_singleton.1 hv];exact hs⟩ (by omega)
   simp[h1,hlt,g,h3];exact hx' _ _ (by simp)
 ·have:i=vs.length:=by omega
  subst this;rw[List.take_length] at ha;have he':=he (qmg s vs ha)
  have h1 : ¬((vs.length:Int)<vs.length):=by omega
  simp;exact he'
theorem qIZ (T:Tab) (hT:HT T) (s:List UInt8) (vs:List AVar) (t:Bool) (hn:vs.length≤1000):T.val 410 [.s s,.l (K1 2) (vs.map AVar.dv) t]=some (two (qb2 s vs)):=by
 have lp:=fun k r fr H => @qB5 T hT s vs t hn k r fr H
 rw[qab T (hT 410 F410 rfl) rfl];unfold two;simp[F410,Fr.ofArgs];refine lp _ _ _ _ (fun h => ?_) (fun fr J h4 h5 hg => ?_) (by simp)
 ·rw[h];simp
 ·simp[h4,h5,hg]
def qaG {α:Type} (g:α→Int):List α→Int
 | []=>0
 |a::r=>if g a=0 then qaG g r else g a
theorem qi8 {α:Type} (g:α→Int) : ∀(a b:List α),(∀v∈a,g v=0)→qaG g (a++b)=qaG g b
 | [],_,_=>rfl
 |v::a,b,h=>by
  rw[List.cons_append,qaG,if_pos (h v (by simp))]
  exact qi8 g a b fun w hw=>h w (by simp[hw])
theorem qf1 {α:Type} (g:α→Int) : ∀(a:List α),qaG g a=0↔∀v∈a,g v=0
 | []=>by simp[qaG]
 |v::a=>by
  rw[qaG];by_cases h:g v=0
  ·rw[if_pos h,qf1 g a];simp[h]
  ·rw[if_neg h];simp[h]
theorem qB2 (T:Tab) (l:List AExpr) (t:Bool) (g:AExpr→Int×Int) (V w:DV) (hg : ∀a∈l,T.val 400 [a.dv,V]=some (two (g a))) (hn:l.length*56≤140737488355328) {k:KC (PV×Bool)} {r:Option (PV×Bool)} {fr:Fr} {H:Heap}
  (he:qaG (fun a=>(g a).2) l=0→k (.exit 1) [(33,.d (.b false)),(32,.d (I l.length)),(31,.d (I l.length)),(30,.d (.l (K1 4) (l.map AExpr.dv) t)),(6,qao K0 (l.map fun a=>I (g a).1)),(2,pB 0 (l.map fun a=>I (g a).1)),(1,.d V)] (qaK K0 [some (.box (K1 4) (.d w))] (l.map fun a=>I (g a).1))=r)
  (hr:qaG (fun a=>(g a).2) l≠0→∀fr J,fr.get 4 = .d (I 0)→fr.get 5 = .d (I (qaG (fun a=>(g a).2) l))→qar fr=[]→k .ret fr J=r)
  (h0:gc [1,2,6,30,31,32] 0 ⟨fr,H⟩=⟨[(32,.d (I 0)),(31,.d (I l.length)),(30,.d (.l (K1 4) (l.map AExpr.dv) t)),(6,.d (.l K0 [] true)),(2,.p 0 0 0),(1,.d V)],[some (.box (K1 4) (.d w))]⟩) :
  kC T.env 0 fr H (.h (.loop [1,2,6,30,31,32] qjQ,k))=r:=by
 refine qbN (fun i:Nat=>⟨[(32,.d (I i)),(31,.d (I l.length)),(30,.d (.l (K1 4) (l.map AExpr.dv) t)),(6,qao K0 ((l.take i).map fun a=>I (g a).1)),(2,pB 0 ((l.take i).map fun a=>I (g a).1)),(1,.d V)],qaK K0 [some (.box (K1 4) (.d w))] ((l.take i).map fun a=>I (g a).1)⟩) (fun i=>i≤l.length∧∀v∈l.take i,(g v).2=0) (fun i=>l.length-i) ?_ 0 ⟨Nat.zero_le _,by simp⟩ (by rw[h0];rfl)
 rintro B-i ⟨hi,ha⟩ hx;by_cases hlt:i<l.length
 ·have h1:(i:Int)<l.length:=by omega
  have h3:=wr1 (i:=i) (by omega)
  have e:=hg l[i] (zzs hlt)
  unfold two at e;have hl:((l.take i).map fun a=>I (g a).1).length≤i:=by simp;omega
  by_cases hs:(g l[i]).2=0
  ·have hx':=hx (i+1) ⟨by omega,by
    rw[List.take_succ_eq_append_getElem hlt];intro v hv;rcases List.mem_append.1 hv with hv|hv
    ·exact ha v hv
    ·rw[List.mem_singleton.1 hv];exact hs⟩ (by omega)
   rw[qkw (fun a:AExpr=>I (g a).1) l i hlt] at hx'
   rw[hs] at e;generalize (l.take i).map (fun a=>I (g a).1)=o at *
   cases o with
   |nil =>
    simp only[qao,qaK,pB,List.nil_append] at hx'⊢;simp[h1,hlt,h3,e];exact hx' _ _ (by simp)
   |cons x o =>
    simp only[qao,qaK,pB,List.cons_append] at hx'⊢;simp only[zzn] at hl;have h5:(o.length+1+1)*8≤140737488355328:=by omega
    have ht:o.take o.length=o:=List.take_of_length_le (by simp)
    simp[h1,hlt,h3,h5,ht,e];exact hx' _ _ (by simp)
  ·have hf:qaG (fun a=>(g a).2) l=(g l[i]).2:=by
    conv=>lhs;rw[qix l i hlt,qi8 _ _ _ ha,qaG,if_neg hs]
   rw[hf] at hr;have hr':=hr hs
   have gs:=qac hs
   generalize (l.take i).map (fun a=>I (g a).1)=o at *
   cases o with
   |nil =>
    simp only[qao,qaK,pB] at⊢;simp[h1,hlt,e,gs,bne];exact hr' _ _ (by simp[Fr.get]) (by simp[Fr.get]) (by simp[qar,gh])
   |cons x o =>
    simp only[qao,qaK,pB] at⊢;simp[h1,hlt,e,gs,bne];exact hr' _ _ (by simp[Fr.get]) (by simp[Fr.get]) (by simp[qar,gh])
 ·have:i=l.length:=by omega
  subst this;rw[List.take_length] at ha⊢;have he':=he ((qf1 _ _).2 ha)
  have h1 : ¬((l.length:Int)<l.length):=by omega
  simp;exact he'
def qko (op:Int) (l:List AExpr) (g:AExpr→Int×Int):Int×Int :=
 if qaG (fun a=>(g a).2) l=0 then (if (qaV op (l.map fun a=>(g a).1)).2=true then ((qaV op (l.map fun a=>(g a).1)).1,0) else (0,3)) else (0,qaG (fun a=>(g a).2) l)
theorem qkz (T:Tab) (hT:HT T) (x:AExpr) (vs:List AVar) (tv:Bool) (hv:vs.length≤1000) (h:x.Op=1∨x.Op=2∨x.Op=3∨x.Op=4) :
  T.val 400 [x.dv,.l (K1 2) (vs.map AVar.dv) tv]=some (two (if x.Op=4 then qb2 x.S vs else (x.Op,0))):=by
 have e:=qIZ T hT x.S vs tv hv
 unfold two at *
 rw[qab T (hT 400 F400 rfl) rfl];rcases h with h|h|h|h
 ·rw[h,if_neg (by decide)]
  simp[F400,Fr.ofArgs,h]
 ·rw[h,if_neg (by decide)]
  simp[F400,Fr.ofArgs,h]
 ·rw[h,if_neg (by decide)]
  simp[F400,Fr.ofArgs,h]
 ·rw[h,if_pos rfl];simp[F400,Fr.ofArgs,h,e]
theorem qn8 (T:Tab) (hT:HT T) (hA:HA T) (x:AExpr) (l:List AExpr) (h2:x.Args.l=l.map AExpr.dv) (hn:l.length*56≤140737488355328) (V:DV) (g:AExpr→Int×Int) (hg : ∀a∈l,T.val 400 [a.dv,V]=some (two (g a))) (n1:x.Op≠1) (n2:x.Op≠2) (n3:x.Op≠3) (n4:x.Op≠4) :
  T.val 400 [x.dv,V]=some (two (qko x.Op l g)):=by
 have lp:=fun w k r fr H => @qB2 T l x.Args.t g V w hg hn k r fr H
 have hm:=mxl
 have e411:=fun b=>qn9 T hT hA x.Op (l.map fun a=>(g a).1) b (by rw[zzo,hm];omega)
 simp only[List.map_map] at e411;have hmm:((fun n=>I n)∘fun a:AExpr=>(g a).1)=fun a:AExpr=>I (g a).1:=rfl
 rw[hmm] at e411;have g1:=qac n1
 have g2:=qac n2
 have g3:=qac n3
 have g4:=qac n4
 unfold qko;generalize qaV x.Op (l.map fun a=>(g a).1)=p at *
 obtain⟨w,ok⟩:=p;unfold qaD at e411;simp only at e411⊢;obtain⟨o,m,s,a⟩:=x;obtain⟨a,t⟩:=a;simp only at h2 lp e411 g1 g2 g3 g4 n1 n2 n3 n4⊢;subst h2;rw[qab T (hT 400 F400 rfl) rfl];unfold two;simp[F400,Fr.ofArgs,g1,g2,g3,g4];refine lp (AExpr.dv ⟨o,m,s,⟨l.map AExpr.dv,t⟩⟩) _ _ _ _ (fun h => ?_) (fun h fr J h4 h5 hg' => ?_) (by simp)
 ·rw[if_pos h];cases ho:l.map (fun a=>I (g a).1) with
  |nil =>
   have ef:=e411 true
   rw[ho] at ef;cases ok with
   |false=>simp[qao,qaK,pB,ef]
   |true=>simp[qao,qaK,pB,ef]
  |cons y o' =>
   have ef:=e411 false
   rw[ho] at ef;have ht:o'.take o'.length=o':=List.take_of_length_le (by simp)
   cases ok with
   |false=>simp[qao,qaK,pB,ht,qaL,pur,qbd,PV.scal,PV.scal1,DV.scal,DV.scal1,ef]
   |true=>simp[qao,qaK,pB,ht,qaL,pur,qbd,PV.scal,PV.scal1,DV.scal,DV.scal1,ef]
 ·rw[if_neg h];simp[h4,h5,hg']
end Go.Sim
end
section
namespace Go.Sim
attribute [local simp] gc Fr.keep qaf qae qad PV.refs PV.refsL qah gcH qaj Obj.refs PV.ren PV.renL Obj.ren Heap.obj Fr.ren gh zzd
set_option maxRecDepth 10000
set_option maxHeartbeats 4000000
theorem qlC (x:Int) : -9223372036854775808≤(qbZ x).1∧(qbZ x).1<9223372036854775808:=by unfold qbZ;split<;>simp<;>omega
theorem qmi (x:Int) : -9223372036854775808≤IntKind.i64.wrap x∧IntKind.i64.wrap x<9223372036854775808:=by rw[wI];omega
theorem qG1 (a b:AValue) : -9223372036854775808≤(qhq a b).1∧(qhq a b).1<9223372036854775808:=by
 unfold qhq;split
 ·split
  ·decide
  ·exact qmi _
 ·split
  ·decide
  ·split<;>exact qlC _
theorem qyJ (op:Int) (a b:AValue) : -9223372036854775808≤(qgU op a b).1∧(qgU op a b).1<9223372036854775808:=by
 unfold qgU qis;split
 ·exact qlC _
 ·split
  ·exact qlC _
  ·split
   ·split<;>exact qlC _
   ·split
    ·decide
    ·exact qG1 a b
theorem qy3 (op:Int) : ∀vs:List AValue,-9223372036854775808≤(clP op vs).1∧(clP op vs).1<9223372036854775808
 | []=>by simp[clP]
 | [_]=>qlC _
 | [a,b]=>qyJ op a b
 | _::_::_::_=>by simp[clP]
theorem qjm {v:AValue} (h:okV v=true) (h5:v.Typ=5):v.N=0∨v.N=1:=by
 unfold okV at h;rw[h5] at h;simpa using h
theorem qy0 (op a b:Int) (ha : -9223372036854775808≤a∧a<9223372036854775808) (hb : -9223372036854775808≤b∧b<9223372036854775808) : -9223372036854775808≤qe9 op a b∧qe9 op a b<9223372036854775808:=by
 have:=qmi (a*b)
 unfold qe9;repeat' split
 all_goals omega
theorem qyX (op:Int) (vs:List AValue) (hi : ∀v∈vs,v.i) (hk : ∀v∈vs,okV v=true) (h:(qaV op (vs.map (·.Typ))).2=true) (ho:op<5∨9<op) :
  (-9223372036854775808≤chP op vs∧chP op vs<9223372036854775808)∧((qaV op (vs.map (·.Typ))).1=5→chP op vs=0∨chP op vs=1):=by
 unfold qaV at h⊢;by_cases ha:(vs.map (·.Typ)).all qbL=true
 ·rw[if_pos ha] at h⊢;match vs,hi,hk,h with
  | [],_,_,h=>cases h
  | [a],hi,hk,h =>
   simp only[zzu,List.map_nil,chP] at h⊢;refine⟨qmi _,fun _ => ?_⟩
   have ho2:(qb8 op a.Typ).2=true:=by
    by_cases c:(qb8 op a.Typ).2=true
    ·exact c
    ·rw[if_neg c] at h;cases h
   have h16:op=16:=by have:=qnJ ho2;omega
   subst h16;have h5:a.Typ=5:=by simpa[qb8] using ho2
   rcases qjm (hk a (by simp)) h5 with e|e
   ·rw[e];exact .inr (by decide)
   ·rw[e];exact .inl (by decide)
  | [a,b],hi,hk,h =>
   simp only[zzu,List.map_nil,chP] at h⊢;have ia:=hi a (by simp)
   have ib:=hi b (by simp)
   unfold AValue.i at ia ib;refine⟨qy0 op a.N b.N ia ib,fun h5 => ?_⟩
   have ho2:(qbl op a.Typ b.Typ).2=true:=by
    by_cases c:(qbl op a.Typ b.Typ).2=true
    ·exact c
    ·rw[if_neg c] at h;cases h
   rw[if_pos ho2] at h5;simp only at h5;unfold qbl at ho2 h5;by_cases h1:op=10∨op=11
   ·unfold qe9;rcases h1 with h1|h1<;>subst h1<;>simp<;>omega
   rw[if_neg h1] at ho2 h5;by_cases h2:op=12∨op=13
   ·unfold qe9;rcases h2 with h1|h1<;>subst h1<;>simp<;>omega
   rw[if_neg h2] at ho2 h5;by_cases h3:op=14∨op=15
   ·rw[if_pos h3] at ho2;have hb:a.Typ=b.Typ∧a.Typ=5:=by simpa using ho2
    have ka:=qjm (hk a (by simp)) hb.2
    have kb:=qjm (hk b (by simp)) (by rw[←hb.1];exact hb.2)
    unfold qe9;rcases h3 with h1|h1<;>subst h1<;>rcases ka with ka|ka<;>rcases kb with kb|kb<;>rw[ka,kb]<;>decide
   rw[if_neg h3] at ho2 h5;by_cases h4:op=17∨op=18
   ·rw[if_pos h4] at ho2 h5;have hb:a.Typ=b.Typ∧a.Typ≠5:=by simpa using ho2
    exact absurd h5 hb.2
   rw[if_neg h4] at ho2 h5;have hv:arV op a.Typ b.Typ≠0:=by simpa using ho2
   have:=qpe hv
   omega
  | [a,b,c],hi,hk,h =>
   simp only[zzu,List.map_nil,chP] at h⊢;have ib:=hi b (by simp)
   have ic:=hi c (by simp)
   unfold AValue.i at ib ic;refine⟨by split<;>assumption,fun h5 => ?_⟩
   by_cases c':op=19∧a.Typ=5∧b.Typ=c.Typ
   ·rw[if_pos c'] at h5;simp only at h5;have kb:=qjm (hk b (by simp)) h5
    have kc:=qjm (hk c (by simp)) (by rw[←c'.2.2];exact h5)
    split<;>assumption
   ·rw[if_neg c'] at h;cases h
  | _::_::_::_::_,_,_,h=>cases h
 ·rw[if_neg ha] at h;cases h
theorem qs7 (op:Int) (vs:List AValue) (hi : ∀v∈vs,v.i) (h:(qaV op (vs.map (·.Typ))).2=true) (h0:(qfZ op vs).2=0) :
  (qfZ op vs).1.Typ=(qaV op (vs.map (·.Typ))).1∧(qfZ op vs).1.i∧((qaV op (vs.map (·.Typ))).1=5→(qfZ op vs).1.N=0∨(qfZ op vs).1.N=1):=by
 have hc:=qyX op vs hi
 unfold qfZ qbx at h0⊢;rw[if_neg (by rw[h];decide)] at h0⊢
 by_cases ha:vs.all okV=true
 ·have hk : ∀v∈vs,okV v=true:=List.all_eq_true.1 ha
  rw[if_neg (by rw[ha];decide)] at h0⊢
  by_cases ho:op<5∨9<op
  ·obtain⟨c1,c2⟩:=hc hk h ho;rw[if_pos ho];exact⟨rfl,c1,c2⟩
  ·rw[if_neg ho] at h0⊢;by_cases hf:(clP op vs).2=0
   ·rw[if_pos hf] at h0⊢;by_cases hv:okV ⟨(qaV op (vs.map (·.Typ))).1,(clP op vs).1⟩=true
    ·rw[if_pos hv];exact⟨rfl,qy3 op vs,fun h5=>qjm hv h5⟩
    ·rw[if_neg hv] at h0;cases h0
   ·rw[if_neg hf] at h0;exact absurd h0 hf
 ·rw[if_pos (by simpa using ha)] at h0;cases h0
def qgj (s:List UInt8):List AVar→List AValue→AValue
 |v::r,w::q=>if v.Name=s then w else qgj s r q
 | _,_=>⟨0,0⟩
theorem qpL (s:List UInt8) : ∀(vs:List AVar) (es:List AValue) (i:Nat) (h:i<vs.length) (h':i<es.length),(∀v∈vs.take i,v.Name≠s)→vs[i].Name=s→qgj s vs es=es[i]
 |v::vs,e::es,0,_,_,_,hs=>by
  rw[qgj,if_pos (show v.Name=s from hs)];rfl
 |v::vs,e::es,i+1,h,h',ha,hs=>by
  rw[qgj,if_neg (ha v (by simp))]
  exact qpL s vs es i (by simpa using h) (by simpa using h') (fun w hw=>ha w (by simp[hw])) hs
theorem qCu (T:Tab) (x:AExpr) (vs:List AVar) (es:List AValue) (tv te:Bool) (hn:vs.length≤1000) (hl:vs.length=es.length) (hf:(qb2 x.S vs).2=0) {k:KC (PV×Bool)} {r:Option (PV×Bool)} {fr:Fr} {H:Heap} (z:DV)
  (hr : ∀fr J,fr.get 6 = .p 0 0 0→fr.get 7 = .d (I 0)→qar fr=[]→k .ret fr (some (.box (K1 2) (.d (qgj x.S vs es).dv))::J)=r)
  (h0:gc [1,2,3,6,36,37,38] 0 ⟨fr,H⟩=⟨[(38,.d (I 0)),(37,.d (I vs.length)),(36,.d (.l (K1 2) (vs.map AVar.dv) tv)),(6,.p 0 0 0),(3,.p 1 0 0),(2,.d (.l (K1 2) (es.map AValue.dv) te)),(1,.d (.l (K1 2) (vs.map AVar.dv) tv))],[some (.box (K1 2) (.d z)),some (.box (K1 4) (.d x.dv))]⟩) :
  kC T.env 0 fr H (.h (.loop [1,2,3,6,36,37,38] qo4,k))=r:=by
 refine qbN (fun i:Nat=>⟨[(38,.d (I i)),(37,.d (I vs.length)),(36,.d (.l (K1 2) (vs.map AVar.dv) tv)),(6,.p 0 0 0),(3,.p 1 0 0),(2,.d (.l (K1 2) (es.map AValue.dv) te)),(1,.d (.l (K1 2) (vs.map AVar.dv) tv))],[some (.box (K1 2) (.d z)),some (.box (K1 4) (.d x.dv))]⟩) (fun i=>i≤vs.length∧∀v∈vs.take i,v.Name≠x.S) (fun i=>vs.length-i) ?_ 0 ⟨Nat.zero_le _,by simp⟩ h0
 rintro B-i ⟨hi,ha⟩ hx;by_cases hlt:i<vs.length
 ·have h1:(i:Int)<vs.length:=by omega
  have h1':(i:Int)<es.length:=by omega
  have hlt':i<es.length:=by omega
  have h3:=wr1 (i:=i) (by omega)
  by_cases hs:vs[i].Name=x.S
  ·rw[qpL x.S vs es i hlt hlt' ha hs] at hr;simp[h1,h1',hlt,hlt',hs];exact hr _ _ (by simp[Fr.get]) (by simp[Fr.get]) (by simp[qar,gh])
  ·have g:=qg4 hs
   have hx':=hx (i+1) ⟨by omega,by
    rw[List.take_succ_eq_append_getElem hlt];intro v hv;rcases List.mem_append.1 hv with hv|hv
    ·exact ha v hv
    ·rw[List.mem_singleton.1 hv];exact hs⟩ (by omega)
   simp[h1,hlt,g,h3];exact hx' _ _ (by simp)
 ·exfalso
  have:i=vs.length:=by omega
  subst this;rw[List.take_length] at ha;rw[qmg x.S vs ha] at hf;cases hf
theorem qCv (T:Tab) (x:AExpr) (l:List AExpr) (t:Bool) (g:AExpr→AValue×Int) (V E z:DV) (hg : ∀a∈l,T.val 947 [a.dv,V,E]=some (qal (g a))) (hn:l.length*56≤140737488355328) {k:KC (PV×Bool)} {r:Option (PV×Bool)} {fr:Fr} {H:Heap}
  (he:qaG (fun a=>(g a).2) l=0→k (.exit 3) [(85,.d (.b false)),(84,.d (I l.length)),(83,.d (I l.length)),(82,.d (.l (K1 4) (l.map AExpr.dv) t)),(12,qao (K1 2) (l.map fun a=>(g a).1.dv)),(6,pB 0 (l.map fun a=>(g a).1.dv)),(3,pB 1 (l.map fun a=>(g a).1.dv)),(2,.d E),(1,.d V)] (qaK (K1 2) [some (.box (K1 2) (.d z)),some (.box (K1 4) (.d x.dv))] (l.map fun a=>(g a).1.dv))=r)
  (hr0:qaG (fun a=>(g a).2) l≠0→∀fr J,fr.get 6 = .p 0 0 0→fr.get 7 = .d (I (qaG (fun a=>(g a).2) l))→qar fr=[]→k .ret fr (some (.box (K1 2) (.d (.a [I 0,I 0])))::J)=r)
  (hr1:qaG (fun a=>(g a).2) l≠0→∀fr s J,fr.get 6 = .p 1 0 0→fr.get 7 = .d (I (qaG (fun a=>(g a).2) l))→qar fr=[]→k .ret fr (s::some (.box (K1 2) (.d (.a [I 0,I 0])))::J)=r)
  (h0:gc [1,2,3,6,12,82,83,84] 0 ⟨fr,H⟩=⟨[(84,.d (I 0)),(83,.d (I l.length)),(82,.d (.l (K1 4) (l.map AExpr.dv) t)),(12,.d (.l (K1 2) [] true)),(6,.p 0 0 0),(3,.p 1 0 0),(2,.d E),(1,.d V)],[some (.box (K1 2) (.d z)),some (.box (K1 4) (.d x.dv))]⟩) :
  kC T.env 0 fr H (.h (.loop [1,2,3,6,12,82,83,84] qjX,k))=r:=by
 refine qbN (fun i:Nat=>⟨[(84,.d (I i)),(83,.d (I l.length)),(82,.d (.l (K1 4) (l.map AExpr.dv) t)),(12,qao (K1 2) ((l.take i).map fun a=>(g a).1.dv)),(6,pB 0 ((l.take i).map fun a=>(g a).1.dv)),(3,pB 1 ((l.take i).map fun a=>(g a).1.dv)),(2,.d E),(1,.d V)],qaK (K1 2) [some (.box (K1 2) (.d z)),some (.box (K1 4) (.d x.dv))] ((l.take i).map fun a=>(g a).1.dv)⟩) (fun i=>i≤l.length∧∀v∈l.take i,(g v).2=0) (fun i=>l.length-i) ?_ 0 ⟨Nat.zero_le _,by simp⟩ (by rw[h0];rfl)
 rintro B-i ⟨hi,ha⟩ hx;by_cases hlt:i<l.length
 ·have h1:(i:Int)<l.length:=by omega
  have h3:=wr1 (i:=i) (by omega)
  have e:=hg l[i] (zzs hlt)
  unfold qal at e;have hl:((l.take i).map fun a=>(g a).1.dv).length≤i:=by simp;omega
  by_cases hs:(g l[i]).2=0
  ·have hx':=hx (i+1) ⟨by omega,by
    rw[List.take_succ_eq_append_getElem hlt];intro v hv;rcases List.mem_append.1 hv with hv|hv
    ·exact ha v hv
    ·rw[List.mem_singleton.1 hv];exact hs⟩ (by omega)
   rw[qkw (fun a:AExpr=>(g a).1.dv) l i hlt] at hx'
   rw[hs] at e;generalize (l.take i).map (fun a=>(g a).1.dv)=o at *
   cases o with
   |nil =>
    simp only[qao,qaK,pB,List.nil_append] at hx'⊢;simp[h1,hlt,h3,e];exact hx' _ _ (by simp)
   |cons y o =>
    simp only[qao,qaK,pB,List.cons_append] at hx'⊢;simp only[zzn] at hl;have h5:(o.length+1+1)*16≤140737488355328:=by omega
    have ht:o.take o.length=o:=List.take_of_length_le (by simp)
    simp[h1,hlt,h3,h5,ht,e];exact hx' _ _ (by simp)
  ·have hf:qaG (fun a=>(g a).2) l=(g l[i]).2:=by
    conv=>lhs;rw[qix l i hlt,qi8 _ _ _ ha,qaG,if_neg hs]
   rw[hf] at hr0 hr1;have gs:=qac hs
   generalize (l.take i).map (fun a=>(g a).1.dv)=o at *
   cases o with
   |nil =>
    have hr':=hr0 hs
    simp only[qao,qaK,pB] at⊢;simp[h1,hlt,e,gs,bne,↓qan,↓qaq,mkA,qag];exact hr' _ _ (by simp[Fr.get]) (by simp[Fr.get]) (by simp[qar,gh])
   |cons y o =>
    have hr':=hr1 hs
    simp only[qao,qaK,pB] at⊢;simp[h1,hlt,e,gs,bne,↓qan,↓qaq,mkA,qag];exact hr' _ _ _ (by simp[Fr.get]) (by simp[Fr.get]) (by simp[qar,gh])
 ·have:i=l.length:=by omega
  subst this;rw[List.take_length] at ha⊢;have he':=he ((qf1 _ _).2 ha)
  have h1 : ¬((l.length:Int)<l.length):=by omega
  simp;exact he'
end Go.Sim
end
section
namespace Go.Sim
attribute [local simp] gc Fr.keep qaf qae qad PV.refs PV.refsL qah gcH qaj Obj.refs PV.ren PV.renL Obj.ren Heap.obj Fr.ren gh zzd
set_option maxRecDepth 10000
set_option maxHeartbeats 4000000
theorem quM {n:Int} (h:inK .i64 n) : -9223372036854775808≤n∧n≤9223372036854775807:=by
 unfold inK at h;simp[Lit.wf] at h;simp[IntKind.min,IntKind.signed,IntKind.bits] at h;omega
theorem qw1 (v:AValue) (f:Int):PV.scal (.t [.d v.dv,.d (I f)])=true:=rfl
def qjv (vs:List AVar) (es:List AValue):Prop:=vs.length=es.length∧∀i (h:i<vs.length) (h':i<es.length),es[i].Typ=vs[i].Typ∧es[i].i∧okV es[i]=true
theorem qzF {v:AVar} {w:AValue} {vs:List AVar} {es:List AValue} (h:qjv (v::vs) (w::es)):qjv vs es :=
 ⟨by simpa using h.1,fun i hi hi'=>h.2 (i+1) (Nat.succ_lt_succ hi) (Nat.succ_lt_succ hi')⟩
theorem qsE (s:List UInt8) : ∀(vs:List AVar) (es:List AValue),qjv vs es→(qb2 s vs).2=0→(qgj s vs es).Typ=(qb2 s vs).1∧(qgj s vs es).i∧((qb2 s vs).1=5→(qgj s vs es).N=0∨(qgj s vs es).N=1)
 | [],_,_,h=>by cases h
 |v::vs,[],hE,_=>by have:=hE.1;simp at this
 |v::vs,w::es,hE,h=>by
  rw[qb2] at h⊢;rw[qgj];by_cases hs:v.Name=s
  ·rw[if_pos hs] at h⊢;rw[if_pos hs];obtain⟨e1,e2,e3⟩:=hE.2 0 (by simp) (by simp)
   simp only[List.getElem_cons_zero] at e1 e2 e3;by_cases hk:qbL v.Typ=true
   ·rw[if_pos hk];exact⟨e1,e2,fun h5=>qjm e3 (by rw[e1];exact h5)⟩
   ·rw[if_neg hk] at h;cases h
  ·rw[if_neg hs] at h⊢;rw[if_neg hs];exact qsE s vs es (qzF hE) h
theorem qx6 (T:Tab) (hT:HT T) (x:AExpr) (V E:DV) (h:x.Op=1∨x.Op=2∨x.Op=3):T.val 947 [x.dv,V,E]=some (qal (⟨x.Op,x.N⟩,0)):=by
 rw[qab T (hT 947 F947 rfl) rfl];rcases h with h|h|h
 ·rw[h];simp[F947,Fr.ofArgs,h,↓qan,↓qaq,↓qap,putAt,mkA,qak,qam,qal,AValue.dv]
 ·rw[h];simp[F947,Fr.ofArgs,h,↓qan,↓qaq,↓qap,putAt,mkA,qak,qam,qal,AValue.dv]
 ·rw[h];simp[F947,Fr.ofArgs,h,↓qan,↓qaq,↓qap,putAt,mkA,qak,qam,qal,AValue.dv]
theorem qx8 (T:Tab) (hT:HT T) (x:AExpr) (vs:List AVar) (es:List AValue) (tv te:Bool) (hn:vs.length≤1000) (hl:vs.length=es.length) (h:x.Op=4) (hf:(qb2 x.S vs).2=0):T.val 947 [x.dv,.l (K1 2) (vs.map AVar.dv) tv,.l (K1 2) (es.map AValue.dv) te]=some (qal (qgj x.S vs es,0)):=by
 have lp:=fun k r fr H => @qCu T x vs es tv te hn hl hf k r fr H (.a [I 0,I 0])
 rw[qab T (hT 947 F947 rfl) rfl];simp[F947,Fr.ofArgs,h];refine lp _ _ _ _ (fun fr J h6 h7 hg => ?_) (by simp)
 simp[h6,h7,hg,qal]
theorem qx7 (T:Tab) (hT:HT T) (hA:HA T) (x:AExpr) (l:List AExpr) (h2:x.Args.l=l.map AExpr.dv) (hn:l.length*56≤140737488355328) (V E:DV) (g:AExpr→AValue×Int) (hg : ∀a∈l,T.val 947 [a.dv,V,E]=some (qal (g a))) (hi : ∀a∈l,(g a).2=0→(g a).1.i) (n1:x.Op≠1) (n2:x.Op≠2) (n3:x.Op≠3) (n4:x.Op≠4) (n5:x.Op≠19) :
  T.val 947 [x.dv,V,E]=some (qal (if qaG (fun a=>(g a).2) l=0 then qfZ x.Op (l.map fun a=>(g a).1) else (⟨0,0⟩,qaG (fun a=>(g a).2) l))):=by
 have lp:=fun k r fr H => @qCv T x l x.Args.t g V E (.a [I 0,I 0]) hg hn k r fr H
 have hmm : ∀(l:List AExpr),(l.map fun a=>(g a).1).map AValue.dv=l.map fun a=>(g a).1.dv:=fun l=>by rw[List.map_map];rfl
 have e967:=fun b (h:qaG (fun a=>(g a).2) l=0)=>qJ4 T hT hA x.Op (l.map fun a=>(g a).1) b (by rw[zzo];exact hn) (fun v hv=>by
  obtain⟨a,ha,rfl⟩:=List.mem_map.1 hv;exact hi a ha ((qf1 _ _).1 h a ha))
 simp only[hmm] at e967;have g1:=qac n1
 have g2:=qac n2
 have g3:=qac n3
 have g4:=qac n4
 have g5:=qac n5
 generalize qfZ x.Op (l.map fun a=>(g a).1)=p at *
 obtain⟨v,f⟩:=p;unfold qal at e967⊢;simp only at e967;obtain⟨o,m,s,a⟩:=x;obtain⟨a,t⟩:=a;simp only at h2 lp e967 g1 g2 g3 g4 g5 n1 n2 n3 n4 n5⊢;subst h2;rw[qab T (hT 947 F947 rfl) rfl];simp[F947,Fr.ofArgs,g1,g2,g3,g4,g5];refine lp _ _ _ _ (fun h => ?_) (fun h fr J h6 h7 hg' => ?_) (fun h fr z J h6 h7 hg' => ?_) (by simp)
 ·rw[if_pos h];cases ho:l.map (fun a=>(g a).1.dv) with
  |nil =>
   have ef:=e967 true h
   rw[ho] at ef;simp[qao,qaK,pB,ef]
  |cons y o' =>
   have ef:=e967 false h
   rw[ho] at ef;have ht:o'.take o'.length=o':=List.take_of_length_le (by simp)
   simp[qao,qaK,pB,ht,qaL,pur,qbd,qw1,ef]
 ·rw[if_neg h];simp[h6,h7,hg',AValue.dv]
 ·rw[if_neg h];simp[h6,h7,hg',AValue.dv]
theorem qx5 (T:Tab) (hT:HT T) (x c a b:AExpr) (h2:x.Args.l=[c.dv,a.dv,b.dv]) (V E:DV) (p q s:AValue×Int) (hc:T.val 947 [c.dv,V,E]=some (qal p)) (ha:p.2=0→p.1.N=1→T.val 947 [a.dv,V,E]=some (qal q)) (hb:p.2=0→p.1.N=0→T.val 947 [b.dv,V,E]=some (qal s)) (h01:p.2=0→p.1.N=0∨p.1.N=1) (h:x.Op=19) :
  T.val 947 [x.dv,V,E]=some (qal (if p.2=0 then (if p.1.N=1 then q else s) else (⟨0,0⟩,p.2))):=by
 obtain⟨o,m,w,l⟩:=x;obtain⟨l,t⟩:=l;simp only at h2 h;subst h2;subst h;obtain⟨v,f⟩:=p;unfold qal at *
 simp only at hc ha hb h01⊢;have w1:IntKind.i64.wrap 1=1:=by decide
 have w2:IntKind.i64.wrap 2=2:=by decide
 rw[qab T (hT 947 F947 rfl) rfl];by_cases hf:f=0
 ·subst hf;rw[if_pos rfl];rcases h01 rfl with hn|hn
  ·have e:=hb rfl hn
   rw[if_neg (by omega)]
   simp[F947,Fr.ofArgs,hc,hn,e,w2]
  ·have e:=ha rfl hn
   rw[if_pos hn];simp[F947,Fr.ofArgs,hc,hn,e,w1]
 ·have gf:=qac hf
  rw[if_neg hf];simp[F947,Fr.ofArgs,hc,gf,bne,↓qan,↓qaq,mkA,qag,AValue.dv]
def TV (T:Tab) (V E:DV) (x:AExpr) (p:Int×Int):Prop :=
 T.val 400 [x.dv,V]=some (two p)∧(p.2=0→∃q:AValue×Int,T.val 947 [x.dv,V,E]=some (qal q)∧(q.2=0→q.1.Typ=p.1∧q.1.i∧(p.1=5→q.1.N=0∨q.1.N=1)))
theorem qwM {ts:List Int} (h:(qaV 19 ts).2=true) : ∃b,ts=[5,b,b]∧(qaV 19 ts).1=b:=by
 unfold qaV at h⊢;by_cases ha:ts.all qbL=true
 ·rw[if_pos ha] at h⊢;match ts,h with
  | [],h=>cases h
  | [a],h=>simp[qb8] at h
  | [a,b],h =>
   have:(qbl 19 a b).2=true:=by
    by_cases c:(qbl 19 a b).2=true
    ·exact c
    ·simp only at h;rw[if_neg c] at h;cases h
   exact absurd rfl (qsr this).2.2
  | [a,b,c],h =>
   have h':a=5∧b=c:=by
    by_cases c':a=5∧b=c
    ·exact c'
    ·exfalso;simp[c'] at h
   obtain⟨rfl,rfl⟩:=h';exact⟨b,rfl,by simp⟩
  | _::_::_::_::_,h=>cases h
 ·rw[if_neg ha] at h;cases h
theorem qxd {α:Type} {f:α→Int} {l:List α} {x y z:Int} (h:l.map f=[x,y,z]) : ∃a b c,l=[a,b,c]∧f a=x∧f b=y∧f c=z:=by
 cases l with
 |nil=>simp at h
 |cons a l =>
  cases l with
  |nil=>simp at h
  |cons b l =>
   cases l with
   |nil=>simp at h
   |cons c l =>
    cases l with
    |nil =>
     simp at h;exact⟨a,b,c,rfl,h.1,h.2.1,h.2.2⟩
    |cons d l=>simp at h
theorem qHX (T:Tab) (hT:HT T) (hA:HA T) (vs:List AVar) (es:List AValue) (tv te:Bool) (hv:vs.length≤1000) (hE:qjv vs es) : ∀(n:Nat) (x:AExpr),SizeOf.sizeOf x.dv<n→x.ok→∃p,TV T (.l (K1 2) (vs.map AVar.dv) tv) (.l (K1 2) (es.map AValue.dv) te) x p:=by
 intro n;induction n with
 |zero=>intro x h;exact absurd h (zzm _)
 |succ n ih =>
  intro x hn hx;by_cases n4:x.Op=4
  ·have e:=qkz T hT x vs tv hv (.inr (.inr (.inr n4)))
   rw[if_pos n4] at e;refine⟨_,e,fun h0=>⟨_,qx8 T hT x vs es tv te hv hE.1 n4 h0,fun _=>qsE x.S vs es hE h0⟩⟩
  by_cases n123:x.Op=1∨x.Op=2∨x.Op=3
  ·have e:=qkz T hT x vs tv hv (by rcases n123 with h|h|h<;>first|exact .inl h|exact .inr (.inl h)|exact .inr (.inr (.inl h)))
   rw[if_neg n4] at e;refine⟨_,e,fun h0=>⟨_,qx6 T hT x _ _ n123,fun _=>⟨rfl,?_,fun h5 => ?_⟩⟩⟩
   ·have:=quM hx.2.1
    exact⟨this.1,by show x.N<_;omega⟩
   ·simp only at h5;omega
  have n1:x.Op≠1:=fun h=>n123 (.inl h)
  have n2:x.Op≠2:=fun h=>n123 (.inr (.inl h))
  have n3:x.Op≠3:=fun h=>n123 (.inr (.inr h))
  obtain⟨l,h2,h3,h4⟩:=qgH hx;obtain⟨g,hg⟩:=qf0 (P:=fun a p=>TV T (.l (K1 2) (vs.map AVar.dv) tv) (.l (K1 2) (es.map AValue.dv) te) a p) (fun a ha=>ih a (by have:=qgG h2 ha;omega) (h3 a ha))
  have e400:=qn8 T hT hA x l h2 h4 (.l (K1 2) (vs.map AVar.dv) tv) g (fun a ha=>(hg a ha).1) n1 n2 n3 n4
  refine⟨_,e400,fun h0 => ?_⟩
  unfold qko at h0⊢;by_cases hf:qaG (fun a=>(g a).2) l=0
  ·rw[if_pos hf] at h0⊢;by_cases hr:(qaV x.Op (l.map fun a=>(g a).1)).2=true
   ·rw[if_pos hr];have hall:=(qf1 _ _).1 hf
    haveI:Nonempty (AValue×Int):=⟨(⟨0,0⟩,0)⟩
    obtain⟨G,hG⟩:=qf0 (P:=fun (a:AExpr) (q:AValue×Int)=>T.val 947 [a.dv,.l (K1 2) (vs.map AVar.dv) tv,.l (K1 2) (es.map AValue.dv) te]=some (qal q)∧(q.2=0→q.1.Typ=(g a).1∧q.1.i∧((g a).1=5→q.1.N=0∨q.1.N=1))) (fun a ha=>(hg a ha).2 (hall a ha))
    by_cases n5:x.Op=19
    ·rw[n5] at hr⊢;obtain⟨b,hb,hb1⟩:=qwM hr;rw[hb1];obtain⟨c,a,d,hl3,hc5,ha5,hd5⟩:=qxd hb;rw[hl3] at h2 hG;have Gc:=hG c (by simp)
     have Ga:=hG a (by simp)
     have Gd:=hG d (by simp)
     have e:=qx5 T hT x c a d h2 _ _ (G c) (G a) (G d) Gc.1 (fun _ _=>Ga.1) (fun _ _=>Gd.1) (fun h=>(Gc.2 h).2.2 hc5) n5
     refine⟨_,e,?_⟩;by_cases f0:(G c).2=0
     ·rw[if_pos f0];by_cases c1:(G c).1.N=1
      ·rw[if_pos c1];intro h
       have:=Ga.2 h
       rw[ha5] at this;exact this
      ·rw[if_neg c1];intro h
       have:=Gd.2 h
       rw[hd5] at this;exact this
     ·rw[if_neg f0];intro h;exact absurd h f0
    ·have e:=qx7 T hT hA x l h2 h4 _ _ G (fun a ha=>(hG a ha).1) (fun a ha h=>((hG a ha).2 h).2.1) n1 n2 n3 n4 n5
     refine⟨_,e,?_⟩;by_cases f0:qaG (fun a=>(G a).2) l=0
     ·rw[if_pos f0];intro h;have hall2:=(qf1 _ _).1 f0
      have ht:(l.map fun a=>(G a).1).map (·.Typ)=l.map fun a=>(g a).1:=by
       rw[List.map_map];apply List.map_congr_left
       intro a ha;exact ((hG a ha).2 (hall2 a ha)).1
      have:=qs7 x.Op (l.map fun a=>(G a).1) (fun v hv=>by
       obtain⟨a,ha,rfl⟩:=List.mem_map.1 hv;exact ((hG a ha).2 (hall2 a ha)).2.1) (by rw[ht];exact hr) h
      rw[ht] at this;exact this
     ·rw[if_neg f0];intro h;exact absurd h f0
   ·rw[if_neg hr] at h0;cases h0
  ·rw[if_neg hf] at h0;exact absurd h0 hf
end Go.Sim
end
section
namespace Go.Sim
attribute [local simp ↓] qbh qbj qbb qbB qbi qbK qa8 qba qbr qbD qbE qbt qbu qa9 qbz qbe qbU qbT qfm qbJ qbG qfv qfu qbg qfi qbQ qfj qfl qfk qbI qbH qfo qfq qft qfs qfr qfn qfp qfw qby qbF
attribute [local simp] qbc qaT writeS touchS qax qaI chg qaZ qaO qaE qaP PV.refs PV.refsL IOp.okD IOp.barr qbo Nat.testBit
attribute [local simp] gc Fr.keep qaf qae qad PV.refs PV.refsL qah gcH qaj Obj.refs PV.ren PV.renL Obj.ren Heap.obj Fr.ren gh zzd
set_option maxRecDepth 10000
set_option maxHeartbeats 4000000
def evB:List AVar→List AValue→Bool
 | [],[]=>true
 |v::vs,e::es=>(decide (e.Typ=v.Typ)&&okV e)&&evB vs es
 | _,_=>false
theorem qpR : ∀(vs:List AVar) (es:List AValue),(∀e∈es,e.i)→evB vs es=true→qjv vs es
 | [],[],_,_=>⟨rfl,fun i h=>absurd h (zzm _)⟩
 | [],_::_,_,h=>by cases h
 | _::_,[],_,h=>by cases h
 |v::vs,e::es,hi,h=>by
  simp only[evB,zzf,zzq] at h;have ih:=qpR vs es (fun w hw=>hi w (by simp[hw])) h.2
  refine⟨by simp[ih.1],fun i h1 h2 => ?_⟩
  cases i with
  |zero=>exact⟨h.1.1,hi e (by simp),h.1.2⟩
  |succ i=>exact ih.2 i (by simpa using h1) (by simpa using h2)
theorem qpS : ∀(vs:List AVar) (es:List AValue),vs.length≠es.length→evB vs es=false
 | [],[],h=>absurd rfl h
 | [],_::_,_=>rfl
 | _::_,[],_=>rfl
 |v::vs,e::es,h=>by
  rw[evB,qpS vs es (by simpa using h),Bool.and_false]
theorem qCt (T:Tab) (hT:HT T) (vs:List AVar) (es:List AValue) (tv te:Bool) (hn:vs.length≤1000) (hl:vs.length=es.length) {k:KC (PV×Bool)} {r:Option (PV×Bool)} {fr:Fr} {H:Heap}
  (he:evB vs es=true→k (.exit 0) [(15,.d (.b false)),(14,.d (I es.length)),(13,.d (I es.length)),(12,.d (.l (K1 2) (es.map AValue.dv) te)),(0,.d (.l (K1 2) (vs.map AVar.dv) tv))] []=r)
  (hr:evB vs es=false→∀fr J,fr.get 4 = .d (.b false)→qar fr=[]→k .ret fr J=r)
  (h0:gc [0,12,13,14] 0 ⟨fr,H⟩=⟨[(14,.d (I 0)),(13,.d (I es.length)),(12,.d (.l (K1 2) (es.map AValue.dv) te)),(0,.d (.l (K1 2) (vs.map AVar.dv) tv))],[]⟩) :
  kC T.env 0 fr H (.h (.loop [0,12,13,14] qli,k))=r:=by
 refine qbN (fun i:Nat=>⟨[(14,.d (I i)),(13,.d (I es.length)),(12,.d (.l (K1 2) (es.map AValue.dv) te)),(0,.d (.l (K1 2) (vs.map AVar.dv) tv))],[]⟩) (fun i=>i≤es.length∧evB vs es=evB (vs.drop i) (es.drop i)) (fun i=>es.length-i) ?_ 0 ⟨Nat.zero_le _,by simp⟩ h0
 rintro B-i ⟨hi,ha⟩ hx;by_cases hlt:i<es.length
 ·have h1:(i:Int)<es.length:=by omega
  have h1':(i:Int)<vs.length:=by omega
  have hlt':i<vs.length:=by omega
  have h3:=wr1 (i:=i) (by omega)
  have e:=qsC T hT es[i]
  rw[List.drop_eq_getElem_cons hlt,List.drop_eq_getElem_cons hlt',evB] at ha;by_cases c:es[i].Typ=vs[i].Typ
  ·cases hk:okV es[i] with
   |true =>
    rw[hk,decide_eq_true c,Bool.true_and,Bool.true_and] at ha;rw[hk] at e;have hx':=hx (i+1) ⟨by omega,ha⟩ (by omega)
    simp[h1,h1',hlt,hlt',c,e,bne,h3];exact hx' _ _ (by simp)
   |false =>
    rw[hk,Bool.and_false,Bool.false_and] at ha;rw[hk] at e;have hr':=hr ha
    simp[h1,h1',hlt,hlt',c,e,bne];exact hr' _ _ (by simp[Fr.get]) (by simp[qar,gh])
  ·rw[decide_eq_false c,Bool.false_and,Bool.false_and] at ha;have g:=qac c
   have hr':=hr ha
   simp[h1,h1',hlt,hlt',g,bne];exact hr' _ _ (by simp[Fr.get]) (by simp[qar,gh])
 ·have:i=es.length:=by omega
  subst this;rw[List.drop_of_length_le (zzt _),List.drop_of_length_le (by omega)] at ha
  have he':=he ha
  have h1 : ¬((es.length:Int)<es.length):=by omega
  simp;exact he'
theorem qx4 (T:Tab) (hT:HT T) (vs:List AVar) (es:List AValue) (tv te:Bool) (hn:vs.length≤1000):T.val 946 [.l (K1 2) (vs.map AVar.dv) tv,.l (K1 2) (es.map AValue.dv) te]=some (.d (.b (evB vs es)),false):=by
 rw[qab T (hT 946 F946 rfl) rfl];by_cases hl:vs.length=es.length
 ·have lp:=fun k r fr H => @qCt T hT vs es tv te hn hl k r fr H
  have hli:((vs.length:Int)==(es.length:Int))=true:=by simp[hl]
  simp[F946,Fr.ofArgs,hl,bne];refine lp _ _ _ _ (fun h => ?_) (fun h fr J h4 hg => ?_) (by simp)
  ·rw[h];simp
  ·rw[h];simp[h4,hg]
 ·have hli:((vs.length:Int)==(es.length:Int))=false:=qac (by omega)
  have hli2 : ¬((vs.length:Int)=(es.length:Int)):=by omega
  rw[qpS vs es hl];simp[F946,Fr.ofArgs,hli,bne]
theorem qDf (T:Tab) (hT:HT T) (hA:HA T) (vs:List AVar) (tv:Bool) (hv:vs.length≤1000) : ∀(n:Nat) (x:AExpr),SizeOf.sizeOf x.dv<n→x.ok→∃p,T.val 400 [x.dv,.l (K1 2) (vs.map AVar.dv) tv]=some (two p):=by
 intro n;induction n with
 |zero=>intro x h;exact absurd h (zzm _)
 |succ n ih =>
  intro x hn hx;by_cases h:x.Op=1∨x.Op=2∨x.Op=3∨x.Op=4
  ·exact⟨_,qkz T hT x vs tv hv h⟩
  ·obtain⟨l,h2,h3,h4⟩:=qgH hx;obtain⟨g,hg⟩:=qf0 (P:=fun a p=>T.val 400 [a.dv,.l (K1 2) (vs.map AVar.dv) tv]=some (two p)) (fun a ha=>ih a (by have:=qgG h2 ha;omega) (h3 a ha))
   exact⟨_,qn8 T hT hA x l h2 h4 _ g hg (by omega) (by omega) (by omega) (by omega)⟩
theorem qxJ (T:Tab) (hT:HT T) (hN:HNm T) (x:AExpr) (hx:x.ok) (V:DV) (p:Int×Int) (hp:T.val 400 [x.dv,V]=some (two p)) : ∃q,T.val 387 [x.dv,V]=some (two q)∧(q.2=0→q=p):=by
 obtain⟨n,e⟩:=qIU T hT hN x hx;by_cases h:n=0
 ·subst h;refine⟨p,?_,fun _=>rfl⟩
  unfold two at *
  rw[qab T (hT 387 qgd rfl) rfl];simp[qgd,Fr.ofArgs,e,hp]
 ·have g:=qac h
  refine⟨(0,n),?_,fun h0=>absurd h0 h⟩
  unfold two at *
  rw[qab T (hT 387 qgd rfl) rfl];simp[qgd,Fr.ofArgs,e,g,bne]
theorem qJQ (T:Tab) (hT:HT T) (hA:HA T) (hN:HNm T) (vs:List AVar) (es:List AValue) (tv te:Bool) (hv:vs.length≤1000) (hi : ∀e∈es,e.i) (h945:T.val 945 [.l (K1 2) (vs.map AVar.dv) tv]=some (.d (I 0),false)) (x:AExpr) (hx:x.ok) :
  ∃q:AValue×Int,T.val 916 [x.dv,.l (K1 2) (vs.map AVar.dv) tv,.l (K1 2) (es.map AValue.dv) te]=some (qal q):=by
 have e946:=qx4 T hT vs es tv te hv
 cases hb:evB vs es with
 |true =>
  rw[hb] at e946;obtain⟨p,h400,h947⟩:=qHX T hT hA vs es tv te hv (qpR vs es hi hb) _ x (Nat.lt_succ_self _) hx;obtain⟨q,h387,hq⟩:=qxJ T hT hN x hx _ p h400;by_cases h0:q.2=0
  ·obtain⟨v,e947,-⟩:=h947 (by rw[←hq h0];exact h0)
   refine⟨v,?_⟩;obtain⟨q1,q2⟩:=q;simp only at h0;subst h0;unfold two at h387;unfold qal at e947⊢;rw[qab T (hT 916 qeD rfl) rfl];simp[qeD,Fr.ofArgs,h945,h387,e946,e947]
  ·refine⟨(⟨0,0⟩,q.2),?_⟩;have g:=qac h0
   unfold two at h387;unfold qal;rw[qab T (hT 916 qeD rfl) rfl];simp[qeD,Fr.ofArgs,h945,h387,g,bne,↓qan,↓qaq,mkA,qag,AValue.dv]
 |false =>
  rw[hb] at e946;obtain⟨p,h400⟩:=qDf T hT hA vs tv hv _ x (Nat.lt_succ_self _) hx;obtain⟨q,h387,-⟩:=qxJ T hT hN x hx _ p h400;by_cases h0:q.2=0
  ·refine⟨(⟨0,0⟩,1),?_⟩;obtain⟨q1,q2⟩:=q;simp only at h0;subst h0;unfold two at h387;unfold qal;rw[qab T (hT 916 qeD rfl) rfl];simp[qeD,Fr.ofArgs,h945,h387,e946,↓qan,↓qaq,mkA,qag,AValue.dv]
  ·refine⟨(⟨0,0⟩,q.2),?_⟩;have g:=qac h0
   unfold two at h387;unfold qal;rw[qab T (hT 916 qeD rfl) rfl];simp[qeD,Fr.ofArgs,h945,h387,g,bne,↓qan,↓qaq,mkA,qag,AValue.dv]
end Go.Sim
end
section
namespace Go.Sim
attribute [local simp ↓] qbh qbj qbb qbB qbi qbK qa8 qba qbr qbD qbE qbt qbu qa9 qbz qbe qbU qbT qfm qbJ qbG qfv qfu qbg qfi qbQ qfj qfl qfk qbI qbH qfo qfq qft qfs qfr qfn qfp qfw qby qbF
attribute [local simp] qbc qaT writeS touchS qax qaI chg qaZ qaO qaE qaP PV.refs PV.refsL IOp.okD IOp.barr qbo Nat.testBit
attribute [local simp] gc Fr.keep qaf qae qad PV.refs PV.refsL qah gcH qaj Obj.refs PV.ren PV.renL Obj.ren Heap.obj Fr.ren gh zzd
set_option maxRecDepth 10000
set_option maxHeartbeats 4000000
theorem qCl (T:Tab) (hS:HS T) (x:AExpr) (vs:List AVar) (t:Bool) (hn:vs.length≤1000) {k:KC (PV×Bool)} {r:Option (PV×Bool)} {fr:Fr} {H:Heap}
  (he:qb2 x.S vs=(0,4)→k (.exit 1) [(26,.d (.b false)),(6,.d (I vs.length)),(2,.p 0 0 0),(1,.d (.l (K1 2) (vs.map AVar.dv) t))] [some (.box (K1 4) (.d x.dv))]=r)
  (hr : ∀fr J,fr.get 4 = .d (I (qb2 x.S vs).1)→fr.get 5 = .d (I (qb2 x.S vs).2)→qar fr=[]→k .ret fr J=r)
  (h0:gc [1,2,6] 0 ⟨fr,H⟩=⟨[(6,.d (I 0)),(2,.p 0 0 0),(1,.d (.l (K1 2) (vs.map AVar.dv) t))],[some (.box (K1 4) (.d x.dv))]⟩) :
  kC T.env 0 fr H (.h (.loop [1,2,6] qlg,k))=r:=by
 refine qbN (fun i:Nat=>⟨[(6,.d (I i)),(2,.p 0 0 0),(1,.d (.l (K1 2) (vs.map AVar.dv) t))],[some (.box (K1 4) (.d x.dv))]⟩) (fun i=>i≤vs.length∧∀v∈vs.take i,v.Name≠x.S) (fun i=>vs.length-i) ?_ 0 ⟨Nat.zero_le _,by simp⟩ h0
 rintro B-i ⟨hi,ha⟩ hx;by_cases hlt:i<vs.length
 ·have h1:(i:Int)<vs.length:=by omega
  have h3:=wr1 (i:=i) (by omega)
  have e:=qx1 T hS vs[i].Typ
  by_cases hs:vs[i].Name=x.S
  ·have hv:qb2 x.S vs=if qbL vs[i].Typ=true then (vs[i].Typ,0) else (0,3):=by
    conv=>lhs;rw[qix vs i hlt,qsD x.S _ _ ha,qb2,if_pos hs]
   rw[hv] at hr;cases hk:qbL vs[i].Typ with
   |true =>
    rw[hk] at e hr;simp only[if_true] at hr;simp[h1,hlt,hs,e];exact hr _ _ (by simp[Fr.get]) (by simp[Fr.get]) (by simp[qar,gh])
   |false =>
    rw[hk] at e hr;simp only[zzg,if_false] at hr;simp[h1,hlt,hs,e];exact hr _ _ (by simp[Fr.get]) (by simp[Fr.get]) (by simp[qar,gh])
  ·have g:(vs[i].Name==x.S)=false:=by simpa using hs
   have hx':=hx (i+1) ⟨by omega,by
    rw[List.take_succ_eq_append_getElem hlt];intro v hv;rcases List.mem_append.1 hv with hv|hv
    ·exact ha v hv
    ·rw[List.mem_singleton.1 hv];exact hs⟩ (by omega)
   simp[h1,hlt,g,h3];exact hx' _ _ (by simp)
 ·have:i=vs.length:=by omega
  subst this;rw[List.take_length] at ha;have he':=he (qmg x.S vs ha)
  have h1 : ¬((vs.length:Int)<vs.length):=by omega
  simp;exact he'
theorem qJD (T:Tab) (hS:HS T) (x:AExpr) (vs:List AVar) (tv:Bool) (hv:vs.length≤1000) (h:x.Op=1∨x.Op=2∨x.Op=3∨x.Op=4) :
  T.val 860 [x.dv,.l (K1 2) (vs.map AVar.dv) tv]=some (two (if x.Op=4 then qb2 x.S vs else (x.Op,0))):=by
 have lp:=fun k r fr H => @qCl T hS x vs tv hv k r fr H
 unfold two;rw[qab T (hS 860 F860 rfl) rfl];rcases h with h|h|h|h
 ·rw[h,if_neg (by decide)]
  simp[F860,Fr.ofArgs,h]
 ·rw[h,if_neg (by decide)]
  simp[F860,Fr.ofArgs,h]
 ·rw[h,if_neg (by decide)]
  simp[F860,Fr.ofArgs,h]
 ·rw[h,if_pos rfl];simp[F860,Fr.ofArgs,h];refine lp _ _ _ _ (fun h => ?_) (fun fr J h4 h5 hg => ?_) (by simp)
  ·rw[h];simp
  ·simp[h4,h5,hg]
def tV:List DV→PV
 | []=>.r 0 K0 0 0 true
 | _::r=>.r 0 K0 0 (r.length+1) false
theorem qCm (T:Tab) (x:AExpr) (l:List AExpr) (h2:x.Args.l=l.map AExpr.dv) (g:AExpr→Int×Int) (V:DV) (hg : ∀a∈l,T.val 860 [a.dv,V]=some (two (g a))) (hn:l.length*56≤140737488355328) {k:KC (PV×Bool)} {r:Option (PV×Bool)} {fr:Fr} {H:Heap}
  (he:qaG (fun a=>(g a).2) l=0→k (.exit 3) [(63,.d (.b false)),(8,.d (I l.length)),(7,tV (l.map fun a=>I (g a).1)),(2,.p 1 0 0),(1,.d V)] [some (.sl K0 0 (l.map fun a=>I (g a).1)),some (.box (K1 4) (.d x.dv))]=r)
  (hr:qaG (fun a=>(g a).2) l≠0→∀fr J,fr.get 4 = .d (I 0)→fr.get 5 = .d (I (qaG (fun a=>(g a).2) l))→qar fr=[]→k .ret fr J=r)
  (h0:gc [1,2,7,8] 0 ⟨fr,H⟩=⟨[(8,.d (I 0)),(7,tV []),(2,.p 1 0 0),(1,.d V)],[some (.sl K0 0 []),some (.box (K1 4) (.d x.dv))]⟩) :
  kC T.env 0 fr H (.h (.loop [1,2,7,8] qiR,k))=r:=by
 refine qbN (fun i:Nat=>⟨[(8,.d (I i)),(7,tV ((l.take i).map fun a=>I (g a).1)),(2,.p 1 0 0),(1,.d V)],[some (.sl K0 0 ((l.take i).map fun a=>I (g a).1)),some (.box (K1 4) (.d x.dv))]⟩) (fun i=>i≤l.length∧∀v∈l.take i,(g v).2=0) (fun i=>l.length-i) ?_ 0 ⟨Nat.zero_le _,by simp⟩ (by rw[h0];rfl)
 rintro B-i ⟨hi,ha⟩ hx;by_cases hlt:i<l.length
 ·have h1:(i:Int)<l.length:=by omega
  have h3:=wr1 (i:=i) (by omega)
  have e:=hg l[i] (zzs hlt)
  unfold two at e;have hl:((l.take i).map fun a=>I (g a).1).length≤i:=by simp;omega
  by_cases hs:(g l[i]).2=0
  ·have hx':=hx (i+1) ⟨by omega,by
    rw[List.take_succ_eq_append_getElem hlt];intro v hv;rcases List.mem_append.1 hv with hv|hv
    ·exact ha v hv
    ·rw[List.mem_singleton.1 hv];exact hs⟩ (by omega)
   rw[qkw (fun a:AExpr=>I (g a).1) l i hlt] at hx'
   rw[hs] at e;generalize (l.take i).map (fun a=>I (g a).1)=o at *
   cases o with
   |nil =>
    simp only[tV,List.nil_append] at hx'⊢;simp[h1,hlt,h2,h3,e];exact hx' _ _ (by simp)
   |cons y o =>
    simp only[tV,List.cons_append] at hx'⊢;simp only[zzn] at hl;have h5:(o.length+1+1)*8≤140737488355328:=by omega
    have ht:o.take o.length=o:=List.take_of_length_le (zzt _)
    simp[h1,hlt,h2,h3,h5,ht,e];exact hx' _ _ (by simp)
  ·have hf:qaG (fun a=>(g a).2) l=(g l[i]).2:=by
    conv=>lhs;rw[qix l i hlt,qi8 _ _ _ ha,qaG,if_neg hs]
   rw[hf] at hr;have hr':=hr hs
   have gs:=qac hs
   generalize (l.take i).map (fun a=>I (g a).1)=o at *
   cases o with
   |nil =>
    simp only[tV];simp[h1,hlt,h2,e,gs,bne];exact hr' _ _ (by simp[Fr.get]) (by simp[Fr.get]) (by simp[qar,gh])
   |cons y o =>
    simp only[tV];simp[h1,hlt,h2,e,gs,bne];exact hr' _ _ (by simp[Fr.get]) (by simp[Fr.get]) (by simp[qar,gh])
 ·have:i=l.length:=by omega
  subst this;rw[List.take_length] at ha⊢;have he':=he ((qf1 _ _).2 ha)
  have h1 : ¬((l.length:Int)<l.length):=by omega
  generalize l.map (fun a=>I (g a).1)=o at *
  cases o with
  |nil =>
   simp only[tV] at he'⊢;simp[h2];exact he'
  |cons y o =>
   simp only[tV] at he'⊢;simp[h2];exact he'
theorem qJE (T:Tab) (hS:HS T) (x:AExpr) (l:List AExpr) (h2:x.Args.l=l.map AExpr.dv) (V:DV) (g:AExpr→Int×Int) (hg : ∀a∈l,T.val 860 [a.dv,V]=some (two (g a))) (ho:5≤x.Op∧x.Op≤19) (hl:l.length≤3) (hl0:l≠[]) :
  T.val 860 [x.dv,V]=some (two (qko x.Op l g)):=by
 have lp:=fun k r fr H => @qCm T x l h2 g V hg (by omega) k r fr H
 have e925:=qx2 T hS x.Op (l.map fun a=>(g a).1) false (by simpa using hl) ho
 rw[List.map_map] at e925;have hmm:((fun n=>I n)∘fun a:AExpr=>(g a).1)=fun a:AExpr=>I (g a).1:=rfl
 rw[hmm] at e925;have n1 : ¬x.Op=1:=by omega
 have n2 : ¬x.Op=2:=by omega
 have n3 : ¬x.Op=3:=by omega
 have n4 : ¬x.Op=4:=by omega
 have g1:=qac n1
 have g2:=qac n2
 have g3:=qac n3
 have g4:=qac n4
 unfold qko;generalize qaV x.Op (l.map fun a=>(g a).1)=p at *
 obtain⟨w,ok⟩:=p;unfold qaD at e925;simp only at e925⊢;rw[qab T (hS 860 F860 rfl) rfl];unfold two;simp[F860,Fr.ofArgs,g1,g2,g3,g4];refine lp _ _ _ _ (fun h => ?_) (fun h fr J h4 h5 hg' => ?_) (by simp[tV])
 ·rw[if_pos h];cases hm:l.map (fun a=>I (g a).1) with
  |nil=>exact absurd (by simpa using hm) hl0
  |cons y o' =>
   rw[hm] at e925;have ht:o'.take o'.length=o':=List.take_of_length_le (zzt _)
   simp only[tV];cases ok with
   |false=>simp[e925,qaL,pur,qbd,PV.scal,PV.scal1,DV.scal,DV.scal1,ht]
   |true=>simp[e925,qaL,pur,qbd,PV.scal,PV.scal1,DV.scal,DV.scal1,ht]
 ·rw[if_neg h];simp[h4,h5,hg']
theorem quj {x:AExpr} (h:qhM x=true):(x.Op=1∨x.Op=2∨x.Op=3∨x.Op=4)∨(5≤x.Op∧x.Op≤19∧1≤x.Args.l.length∧x.Args.l.length≤3):=by
 simp only[qhM,zzf,beq_iff_eq] at h;have h:=h.1.1.1
 unfold qcd at h;split at h
 ·exact .inl (by omega)
 split at h
 ·exact .inr (by omega)
 split at h
 ·exact .inr (by omega)
 split at h
 ·exact .inr (by omega)
 ·exfalso;omega
abbrev RT (T:Tab) (x:AExpr):Prop:=T.val 921 [x.dv]=some (.d (.b true),false)
theorem qwQ {T:Tab} (hS:HS T) (hT:HT T) {x:AExpr} (hx:x.ok) (h:RT T x):qhM x=true∧∀l:List AExpr,x.Args.l=l.map AExpr.dv→∀a∈l,RT T a:=by
 obtain⟨b,e,-,k⟩:=qx0 T hS hT _ x (Nat.lt_succ_self _) hx;unfold RT at h;rw[e] at h;injection h with h;injection h with h _;injection h with h;injection h with h
 exact k h
theorem qJC (T:Tab) (hS:HS T) (hT:HT T) (hA:HA T) (vs:List AVar) (tv:Bool) (hv:vs.length≤1000) : ∀(n:Nat) (x:AExpr),SizeOf.sizeOf x.dv<n→x.ok→RT T x→∃p,T.val 400 [x.dv,.l (K1 2) (vs.map AVar.dv) tv]=some (two p)∧T.val 860 [x.dv,.l (K1 2) (vs.map AVar.dv) tv]=some (two p):=by
 intro n;induction n with
 |zero=>intro x h;exact absurd h (zzm _)
 |succ n ih =>
  intro x hn hx hR;obtain⟨hF,hK⟩:=qwQ hS hT hx hR;rcases quj hF with h|⟨o1,o2,l1,l2⟩
  ·exact⟨_,qkz T hT x vs tv hv h,qJD T hS x vs tv hv h⟩
  ·obtain⟨l,h2,h3,h4⟩:=qgH hx;have hll:x.Args.l.length=l.length:=by rw[h2,zzo]
   obtain⟨g,hg⟩:=qf0 (P:=fun (a:AExpr) (p:Int×Int)=>T.val 400 [a.dv,.l (K1 2) (vs.map AVar.dv) tv]=some (two p)∧T.val 860 [a.dv,.l (K1 2) (vs.map AVar.dv) tv]=some (two p)) (fun a ha=>ih a (by have:=qgG h2 ha;omega) (h3 a ha) (hK l h2 a ha))
   exact⟨_,qn8 T hT hA x l h2 h4 _ g (fun a ha=>(hg a ha).1) (by omega) (by omega) (by omega) (by omega),qJE T hS x l h2 _ g (fun a ha=>(hg a ha).2) ⟨o1,o2⟩ (by omega) (fun h=>by rw[h,List.length_nil] at hll;omega)⟩
end Go.Sim
end
section
namespace Go.Sim
attribute [local simp ↓] qbh qbj qbb qbB qbi qbK qa8 qba qbr qbD qbE qbt qbu qa9 qbz qbe qbU qbT qfm qbJ qbG qfv qfu qbg qfi qbQ qfj qfl qfk qbI qbH qfo qfq qft qfs qfr qfn qfp qfw qby qbF
attribute [local simp] qbc qaT writeS touchS qax qaI chg qaZ qaO qaE qaP PV.refs PV.refsL IOp.okD IOp.barr qbo Nat.testBit
attribute [local simp] gc Fr.keep qaf qae qad PV.refs PV.refsL qah gcH qaj Obj.refs PV.ren PV.renL Obj.ren Heap.obj Fr.ren gh zzd
set_option maxRecDepth 10000
set_option maxHeartbeats 4000000
theorem qBK (T:Tab) (x:AExpr) (vs:List AVar) (es:List AValue) (tv te:Bool) (hn:vs.length≤1000) (hl:vs.length=es.length) (hf:(qb2 x.S vs).2=0) {k:KC (PV×Bool)} {r:Option (PV×Bool)} {fr:Fr} {H:Heap} (z:DV)
  (hr : ∀fr J,fr.get 6 = .p 0 0 0→qar fr=[]→k .ret fr (some (.box (K1 2) (.d (qgj x.S vs es).dv))::J)=r)
  (h0:gc [1,2,3,6,7] 0 ⟨fr,H⟩=⟨[(7,.d (I 0)),(6,.p 0 0 0),(3,.p 1 0 0),(2,.d (.l (K1 2) (es.map AValue.dv) te)),(1,.d (.l (K1 2) (vs.map AVar.dv) tv))],[some (.box (K1 2) (.d z)),some (.box (K1 4) (.d x.dv))]⟩) :
  kC T.env 0 fr H (.h (.loop [1,2,3,6,7] qoA,k))=r:=by
 refine qbN (fun i:Nat=>⟨[(7,.d (I i)),(6,.p 0 0 0),(3,.p 1 0 0),(2,.d (.l (K1 2) (es.map AValue.dv) te)),(1,.d (.l (K1 2) (vs.map AVar.dv) tv))],[some (.box (K1 2) (.d z)),some (.box (K1 4) (.d x.dv))]⟩) (fun i=>i≤vs.length∧∀v∈vs.take i,v.Name≠x.S) (fun i=>vs.length-i) ?_ 0 ⟨Nat.zero_le _,by simp⟩ h0
 rintro B-i ⟨hi,ha⟩ hx;by_cases hlt:i<vs.length
 ·have h1:(i:Int)<vs.length:=by omega
  have h1':(i:Int)<es.length:=by omega
  have hlt':i<es.length:=by omega
  have h3:=wr1 (i:=i) (by omega)
  by_cases hs:vs[i].Name=x.S
  ·rw[qpL x.S vs es i hlt hlt' ha hs] at hr;simp[h1,h1',hlt,hlt',hs];exact hr _ _ (by simp[Fr.get]) (by simp[qar,gh])
  ·have g:=qg4 hs
   have hx':=hx (i+1) ⟨by omega,by
    rw[List.take_succ_eq_append_getElem hlt];intro v hv;rcases List.mem_append.1 hv with hv|hv
    ·exact ha v hv
    ·rw[List.mem_singleton.1 hv];exact hs⟩ (by omega)
   simp[h1,hlt,g,h3];exact hx' _ _ (by simp)
 ·exfalso
  have:i=vs.length:=by omega
  subst this;rw[List.take_length] at ha;rw[qmg x.S vs ha] at hf;cases hf
theorem qIj (T:Tab) (hR:HR T) (x:AExpr) (V E:DV) (h:x.Op=1∨x.Op=2∨x.Op=3):T.val 1048 [x.dv,V,E]=some (.d (⟨x.Op,x.N⟩:AValue).dv,false):=by
 rw[qab T (hR 1048 F1048 rfl) rfl];rcases h with h|h|h
 ·rw[h];simp[F1048,Fr.ofArgs,h,↓qan,↓qaq,↓qap,putAt,mkA,qak,qam,AValue.dv]
 ·rw[h];simp[F1048,Fr.ofArgs,h,↓qan,↓qaq,↓qap,putAt,mkA,qak,qam,AValue.dv]
 ·rw[h];simp[F1048,Fr.ofArgs,h,↓qan,↓qaq,↓qap,putAt,mkA,qak,qam,AValue.dv]
theorem qIk (T:Tab) (hR:HR T) (x:AExpr) (vs:List AVar) (es:List AValue) (tv te:Bool) (hn:vs.length≤1000) (hl:vs.length=es.length) (h:x.Op=4) (hf:(qb2 x.S vs).2=0):T.val 1048 [x.dv,.l (K1 2) (vs.map AVar.dv) tv,.l (K1 2) (es.map AValue.dv) te]=some (.d (qgj x.S vs es).dv,false):=by
 have lp:=fun k r fr H => @qBK T x vs es tv te hn hl hf k r fr H (.a [I 0,I 0])
 rw[qab T (hR 1048 F1048 rfl) rfl];simp[F1048,Fr.ofArgs,h];refine lp _ _ _ _ (fun fr J h6 hg => ?_) (by simp)
 simp[h6,hg]
theorem qxt (T:Tab) (hR:HR T) (x:AExpr) (h0:x.Args.l.length=0) (V E:DV) (v:AValue) (e:T.val 1048 [x.dv,V,E]=some (.d v.dv,false)):T.val 1042 [x.dv,V,E]=some (qal (v,0)):=by
 obtain⟨o,m,w,l⟩:=x;obtain⟨l,t⟩:=l;obtain rfl:l=[]:=List.length_eq_zero_iff.1 h0;unfold qal;rw[qab T (hR 1042 F1042 rfl) rfl];simp[F1042,Fr.ofArgs,e]
theorem qBG (T:Tab) (x:AExpr) (l:List AExpr) (h2:x.Args.l=l.map AExpr.dv) (g:AExpr→AValue×Int) (V E z:DV) (hg : ∀a∈l,T.val 1042 [a.dv,V,E]=some (qal (g a))) (hn:l.length*56≤140737488355328) {k:KC (PV×Bool)} {r:Option (PV×Bool)} {fr:Fr} {H:Heap}
  (he:qaG (fun a=>(g a).2) l=0→k (.exit 0) [(55,.d (.b false)),(11,.d (I l.length)),(10,qao (K1 2) (l.map fun a=>(g a).1.dv)),(6,pB 0 (l.map fun a=>(g a).1.dv)),(3,pB 1 (l.map fun a=>(g a).1.dv)),(2,.d E),(1,.d V)] (qaK (K1 2) [some (.box (K1 2) (.d z)),some (.box (K1 4) (.d x.dv))] (l.map fun a=>(g a).1.dv))=r)
  (hr0:qaG (fun a=>(g a).2) l≠0→∀fr J,fr.get 6 = .p 0 0 0→fr.get 7 = .d (I (qaG (fun a=>(g a).2) l))→qar fr=[]→k .ret fr (some (.box (K1 2) (.d (.a [I 0,I 0])))::J)=r)
  (hr1:qaG (fun a=>(g a).2) l≠0→∀fr s J,fr.get 6 = .p 1 0 0→fr.get 7 = .d (I (qaG (fun a=>(g a).2) l))→qar fr=[]→k .ret fr (s::some (.box (K1 2) (.d (.a [I 0,I 0])))::J)=r)
  (h0:gc [1,2,3,6,10,11] 0 ⟨fr,H⟩=⟨[(11,.d (I 0)),(10,.d (.l (K1 2) [] true)),(6,.p 0 0 0),(3,.p 1 0 0),(2,.d E),(1,.d V)],[some (.box (K1 2) (.d z)),some (.box (K1 4) (.d x.dv))]⟩) :
  kC T.env 0 fr H (.h (.loop [1,2,3,6,10,11] qiO,k))=r:=by
 refine qbN (fun i:Nat=>⟨[(11,.d (I i)),(10,qao (K1 2) ((l.take i).map fun a=>(g a).1.dv)),(6,pB 0 ((l.take i).map fun a=>(g a).1.dv)),(3,pB 1 ((l.take i).map fun a=>(g a).1.dv)),(2,.d E),(1,.d V)],qaK (K1 2) [some (.box (K1 2) (.d z)),some (.box (K1 4) (.d x.dv))] ((l.take i).map fun a=>(g a).1.dv)⟩) (fun i=>i≤l.length∧∀v∈l.take i,(g v).2=0) (fun i=>l.length-i) ?_ 0 ⟨Nat.zero_le _,by simp⟩ (by rw[h0];rfl)
 rintro B-i ⟨hi,ha⟩ hx;by_cases hlt:i<l.length
 ·have h1:(i:Int)<l.length:=by omega
  have h3:=wr1 (i:=i) (by omega)
  have e:=hg l[i] (zzs hlt)
  unfold qal at e;have hl:((l.take i).map fun a=>(g a).1.dv).length≤i:=by simp;omega
  by_cases hs:(g l[i]).2=0
  ·have hx':=hx (i+1) ⟨by omega,by
    rw[List.take_succ_eq_append_getElem hlt];intro v hv;rcases List.mem_append.1 hv with hv|hv
    ·exact ha v hv
    ·rw[List.mem_singleton.1 hv];exact hs⟩ (by omega)
   rw[qkw (fun a:AExpr=>(g a).1.dv) l i hlt] at hx'
   rw[hs] at e;generalize (l.take i).map (fun a=>(g a).1.dv)=o at *
   cases o with
   |nil =>
    simp only[qao,qaK,pB,List.nil_append] at hx'⊢;simp[h1,hlt,h2,h3,e];exact hx' _ _ (by simp)
   |cons y o =>
    simp only[qao,qaK,pB,List.cons_append] at hx'⊢;simp only[zzn] at hl;have h5:(o.length+1+1)*16≤140737488355328:=by omega
    have ht:o.take o.length=o:=List.take_of_length_le (by simp)
    simp[h1,hlt,h2,h3,h5,ht,e];exact hx' _ _ (by simp)
  ·have hf:qaG (fun a=>(g a).2) l=(g l[i]).2:=by
    conv=>lhs;rw[qix l i hlt,qi8 _ _ _ ha,qaG,if_neg hs]
   rw[hf] at hr0 hr1;have gs:=qac hs
   generalize (l.take i).map (fun a=>(g a).1.dv)=o at *
   cases o with
   |nil =>
    have hr':=hr0 hs
    simp only[qao,qaK,pB] at⊢;simp[h1,hlt,h2,e,gs,bne,↓qan,↓qaq,mkA,qag];exact hr' _ _ (by simp[Fr.get]) (by simp[Fr.get]) (by simp[qar,gh])
   |cons y o =>
    have hr':=hr1 hs
    simp only[qao,qaK,pB] at⊢;simp[h1,hlt,h2,e,gs,bne,↓qan,↓qaq,mkA,qag];exact hr' _ _ _ (by simp[Fr.get]) (by simp[Fr.get]) (by simp[qar,gh])
 ·have:i=l.length:=by omega
  subst this;rw[List.take_length] at ha⊢;have he':=he ((qf1 _ _).2 ha)
  have h1 : ¬((l.length:Int)<l.length):=by omega
  generalize l.map (fun a=>(g a).1.dv)=o at *
  cases o with
  |nil =>
   simp only[qao,qaK,pB] at he'⊢;simp[h2];exact he'
  |cons y o =>
   simp only[qao,qaK,pB] at he'⊢;simp[h2];exact he'
theorem qIg (T:Tab) (hR:HR T) (hV:HV T) (hS:HS T) (x:AExpr) (l:List AExpr) (h2:x.Args.l=l.map AExpr.dv) (hn:l.length*56≤140737488355328) (V E:DV) (g:AExpr→AValue×Int) (hg : ∀a∈l,T.val 1042 [a.dv,V,E]=some (qal (g a))) (hi : ∀a∈l,(g a).2=0→(g a).1.i) (hl0:l≠[]) (n5:x.Op≠19)
  (hr:qaG (fun a=>(g a).2) l=0→(qaV x.Op ((l.map fun a=>(g a).1).map (·.Typ))).2=true) :
  T.val 1042 [x.dv,V,E]=some (qal (if qaG (fun a=>(g a).2) l=0 then qfZ x.Op (l.map fun a=>(g a).1) else (⟨0,0⟩,qaG (fun a=>(g a).2) l))):=by
 have lp:=fun k r fr H => @qBG T x l h2 g V E (.a [I 0,I 0]) hg hn k r fr H
 have hmm : ∀(l:List AExpr),(l.map fun a=>(g a).1).map AValue.dv=l.map fun a=>(g a).1.dv:=fun l=>by rw[List.map_map];rfl
 have e1049:=fun b (h:qaG (fun a=>(g a).2) l=0)=>qIl T hR hV hS x.Op (l.map fun a=>(g a).1) b (fun v hv=>by
  obtain⟨a,ha,rfl⟩:=List.mem_map.1 hv;exact hi a ha ((qf1 _ _).1 h a ha)) (hr h)
 simp only[hmm] at e1049;have g5:=qac n5
 have hll:x.Args.l.length≠0:=by rw[h2,zzo];exact fun h=>hl0 (List.length_eq_zero_iff.1 h)
 have gl:((x.Args.l.length:Int)==0)=false:=qac (by omega)
 generalize qfZ x.Op (l.map fun a=>(g a).1)=p at *
 obtain⟨v,f⟩:=p;unfold qal at e1049⊢;simp only at e1049;rw[qab T (hR 1042 F1042 rfl) rfl];simp[F1042,Fr.ofArgs,gl,g5];refine lp _ _ _ _ (fun h => ?_) (fun h fr J h6 h7 hg' => ?_) (fun h fr z J h6 h7 hg' => ?_) (by simp)
 ·rw[if_pos h];cases ho:l.map (fun a=>(g a).1.dv) with
  |nil=>exact absurd (by simpa using ho) hl0
  |cons y o' =>
   have ef:=e1049 false h
   rw[ho] at ef;have ht:o'.take o'.length=o':=List.take_of_length_le (by simp)
   simp[qao,qaK,pB,ht,qaL,pur,qbd,qw1,ef]
 ·rw[if_neg h];simp[h6,h7,hg',AValue.dv]
 ·rw[if_neg h];simp[h6,h7,hg',AValue.dv]
theorem qIf (T:Tab) (hR:HR T) (x c a b:AExpr) (h2:x.Args.l=[c.dv,a.dv,b.dv]) (V E:DV) (p q s:AValue×Int) (hc:T.val 1042 [c.dv,V,E]=some (qal p)) (ha:p.2=0→p.1.N=1→T.val 1042 [a.dv,V,E]=some (qal q)) (hb:p.2=0→p.1.N=0→T.val 1042 [b.dv,V,E]=some (qal s)) (h01:p.2=0→p.1.N=0∨p.1.N=1) (h:x.Op=19) :
  T.val 1042 [x.dv,V,E]=some (qal (if p.2=0 then (if p.1.N=1 then q else s) else (⟨0,0⟩,p.2))):=by
 obtain⟨o,m,w,l⟩:=x;obtain⟨l,t⟩:=l;simp only at h2 h;subst h2;subst h;obtain⟨v,f⟩:=p;unfold qal at *
 simp only at hc ha hb h01⊢;have w0:IntKind.i64.wrap 0=0:=by decide
 have w1:IntKind.i64.wrap 1=1:=by decide
 have w2:IntKind.i64.wrap 2=2:=by decide
 rw[qab T (hR 1042 F1042 rfl) rfl];by_cases hf:f=0
 ·subst hf;rw[if_pos rfl];rcases h01 rfl with hn|hn
  ·have e:=hb rfl hn
   rw[if_neg (by omega)]
   simp[F1042,Fr.ofArgs,hc,hn,e,w2]
  ·have e:=ha rfl hn
   rw[if_pos hn];simp[F1042,Fr.ofArgs,hc,hn,e,w1]
 ·have gf:=qac hf
  rw[if_neg hf];simp[F1042,Fr.ofArgs,hc,gf,bne,↓qan,↓qaq,mkA,qag,AValue.dv]
def TW2 (T:Tab) (V E:DV) (x:AExpr) (p:Int×Int):Prop :=
 T.val 400 [x.dv,V]=some (two p)∧(p.2=0→∃q:AValue×Int,T.val 947 [x.dv,V,E]=some (qal q)∧T.val 1042 [x.dv,V,E]=some (qal q)∧(q.2=0→q.1.Typ=p.1∧q.1.i∧(p.1=5→q.1.N=0∨q.1.N=1)))
theorem qHY (T:Tab) (hT:HT T) (hA:HA T) (hR:HR T) (hV:HV T) (hS:HS T) (vs:List AVar) (es:List AValue) (tv te:Bool) (hv:vs.length≤1000) (hE:qjv vs es) : ∀(n:Nat) (x:AExpr),SizeOf.sizeOf x.dv<n→x.ok→RT T x→∃p,TW2 T (.l (K1 2) (vs.map AVar.dv) tv) (.l (K1 2) (es.map AValue.dv) te) x p:=by
 intro n;induction n with
 |zero=>intro x h;exact absurd h (zzm _)
 |succ n ih =>
  intro x hn hx hRT;obtain⟨hF,hK⟩:=qwQ hS hT hx hRT;rcases quj hF with hleaf|⟨o1,o2,l1,l2⟩
  ·have hl0:x.Args.l.length=0:=by
    have h:=hF
    simp only[qhM,zzf,beq_iff_eq] at h;have h:=h.1.1.1
    unfold qcd at h;rw[if_pos (by omega)] at h
    omega
   by_cases n4:x.Op=4
   ·have e:=qkz T hT x vs tv hv (.inr (.inr (.inr n4)))
    rw[if_pos n4] at e;refine⟨_,e,fun h0=>⟨_,qx8 T hT x vs es tv te hv hE.1 n4 h0,qxt T hR x hl0 _ _ _ (qIk T hR x vs es tv te hv hE.1 n4 h0),fun _=>qsE x.S vs es hE h0⟩⟩
   ·have n123:x.Op=1∨x.Op=2∨x.Op=3:=by omega
    have e:=qkz T hT x vs tv hv hleaf
    rw[if_neg n4] at e;refine⟨_,e,fun h0=>⟨_,qx6 T hT x _ _ n123,qxt T hR x hl0 _ _ _ (qIj T hR x _ _ n123),fun _=>⟨rfl,?_,fun h5 => ?_⟩⟩⟩
    ·have:=quM hx.2.1
     exact⟨this.1,by show x.N<_;omega⟩
    ·simp only at h5;omega
  have n1:x.Op≠1:=by omega
  have n2:x.Op≠2:=by omega
  have n3:x.Op≠3:=by omega
  have n4:x.Op≠4:=by omega
  obtain⟨l,h2,h3,h4⟩:=qgH hx;have hll:x.Args.l.length=l.length:=by rw[h2,zzo]
  have hl0:l≠[]:=fun h=>by rw[h,List.length_nil] at hll;omega
  obtain⟨g,hg⟩:=qf0 (P:=fun (a:AExpr) (p:Int×Int)=>TW2 T (.l (K1 2) (vs.map AVar.dv) tv) (.l (K1 2) (es.map AValue.dv) te) a p) (fun a ha=>ih a (by have:=qgG h2 ha;omega) (h3 a ha) (hK l h2 a ha))
  have e400:=qn8 T hT hA x l h2 h4 (.l (K1 2) (vs.map AVar.dv) tv) g (fun a ha=>(hg a ha).1) n1 n2 n3 n4
  refine⟨_,e400,fun h0 => ?_⟩
  unfold qko at h0⊢;by_cases hf:qaG (fun a=>(g a).2) l=0
  ·rw[if_pos hf] at h0⊢;by_cases hr:(qaV x.Op (l.map fun a=>(g a).1)).2=true
   ·rw[if_pos hr];have hall:=(qf1 _ _).1 hf
    haveI:Nonempty (AValue×Int):=⟨(⟨0,0⟩,0)⟩
    obtain⟨G,hG⟩:=qf0 (P:=fun (a:AExpr) (q:AValue×Int)=>T.val 947 [a.dv,.l (K1 2) (vs.map AVar.dv) tv,.l (K1 2) (es.map AValue.dv) te]=some (qal q)∧T.val 1042 [a.dv,.l (K1 2) (vs.map AVar.dv) tv,.l (K1 2) (es.map AValue.dv) te]=some (qal q)∧(q.2=0→q.1.Typ=(g a).1∧q.1.i∧((g a).1=5→q.1.N=0∨q.1.N=1))) (fun a ha=>(hg a ha).2 (hall a ha))
    by_cases n5:x.Op=19
    ·rw[n5] at hr⊢;obtain⟨b,hb,hb1⟩:=qwM hr;rw[hb1];obtain⟨c,a,d,hl3,hc5,ha5,hd5⟩:=qxd hb;rw[hl3] at h2 hG;have Gc:=hG c (by simp)
     have Ga:=hG a (by simp)
     have Gd:=hG d (by simp)
     have e:=qx5 T hT x c a d h2 _ _ (G c) (G a) (G d) Gc.1 (fun _ _=>Ga.1) (fun _ _=>Gd.1) (fun h=>(Gc.2.2 h).2.2 hc5) n5
     have e':=qIf T hR x c a d h2 _ _ (G c) (G a) (G d) Gc.2.1 (fun _ _=>Ga.2.1) (fun _ _=>Gd.2.1) (fun h=>(Gc.2.2 h).2.2 hc5) n5
     refine⟨_,e,e',?_⟩;by_cases f0:(G c).2=0
     ·rw[if_pos f0];by_cases c1:(G c).1.N=1
      ·rw[if_pos c1];intro h
       have:=Ga.2.2 h
       rw[ha5] at this;exact this
      ·rw[if_neg c1];intro h
       have:=Gd.2.2 h
       rw[hd5] at this;exact this
     ·rw[if_neg f0];intro h;exact absurd h f0
    ·have ht:qaG (fun a=>(G a).2) l=0→(l.map fun a=>(G a).1).map (·.Typ)=l.map fun a=>(g a).1:=fun f0=>by
      have hall2:=(qf1 _ _).1 f0
      rw[List.map_map];apply List.map_congr_left
      intro a ha;exact ((hG a ha).2.2 (hall2 a ha)).1
     have e:=qx7 T hT hA x l h2 h4 _ _ G (fun a ha=>(hG a ha).1) (fun a ha h=>((hG a ha).2.2 h).2.1) n1 n2 n3 n4 n5
     have e':=qIg T hR hV hS x l h2 h4 _ _ G (fun a ha=>(hG a ha).2.1) (fun a ha h=>((hG a ha).2.2 h).2.1) hl0 n5 (fun f0=>by rw[ht f0];exact hr)
     refine⟨_,e,e',?_⟩;by_cases f0:qaG (fun a=>(G a).2) l=0
     ·rw[if_pos f0];intro h;have hall2:=(qf1 _ _).1 f0
      have:=qs7 x.Op (l.map fun a=>(G a).1) (fun v hv=>by
       obtain⟨a,ha,rfl⟩:=List.mem_map.1 hv;exact ((hG a ha).2.2 (hall2 a ha)).2.1) (by rw[ht f0];exact hr) h
      rw[ht f0] at this;exact this
     ·rw[if_neg f0];intro h;exact absurd h f0
   ·rw[if_neg hr] at h0;cases h0
  ·rw[if_neg hf] at h0;exact absurd h0 hf
end Go.Sim
end
section
namespace Go.Sim
attribute [local simp ↓] qbh qbj qbb qbB qbi qbK qa8 qba qbr qbD qbE qbt qbu qa9 qbz qbe qbU qbT qfm qbJ qbG qfv qfu qbg qfi qbQ qfj qfl qfk qbI qbH qfo qfq qft qfs qfr qfn qfp qfw qby qbF
attribute [local simp] qbc qaT writeS touchS qax qaI chg qaZ qaO qaE qaP PV.refs PV.refsL IOp.okD IOp.barr qbo Nat.testBit
attribute [local simp] gc Fr.keep qaf qae qad PV.refs PV.refsL qah gcH qaj Obj.refs PV.ren PV.renL Obj.ren Heap.obj Fr.ren gh zzd
set_option maxRecDepth 10000
set_option maxHeartbeats 4000000
theorem qBF (T:Tab) (hV:HV T) (vs:List AVar) (es:List AValue) (tv te:Bool) (hn:vs.length≤1000) (hl:vs.length=es.length) {k:KC (PV×Bool)} {r:Option (PV×Bool)} {fr:Fr} {H:Heap}
  (he:evB vs es=true→k (.exit 0) [(14,.d (.b false)),(5,.d (I es.length)),(1,.d (.l (K1 2) (es.map AValue.dv) te)),(0,.d (.l (K1 2) (vs.map AVar.dv) tv))] []=r)
  (hr:evB vs es=false→∀fr J,fr.get 4 = .d (.b false)→qar fr=[]→k .ret fr J=r)
  (h0:gc [0,1,5] 0 ⟨fr,H⟩=⟨[(5,.d (I 0)),(1,.d (.l (K1 2) (es.map AValue.dv) te)),(0,.d (.l (K1 2) (vs.map AVar.dv) tv))],[]⟩) :
  kC T.env 0 fr H (.h (.loop [0,1,5] qld,k))=r:=by
 refine qbN (fun i:Nat=>⟨[(5,.d (I i)),(1,.d (.l (K1 2) (es.map AValue.dv) te)),(0,.d (.l (K1 2) (vs.map AVar.dv) tv))],[]⟩) (fun i=>i≤es.length∧evB vs es=evB (vs.drop i) (es.drop i)) (fun i=>es.length-i) ?_ 0 ⟨Nat.zero_le _,by simp⟩ h0
 rintro B-i ⟨hi,ha⟩ hx;by_cases hlt:i<es.length
 ·have h1:(i:Int)<es.length:=by omega
  have h1':(i:Int)<vs.length:=by omega
  have hlt':i<vs.length:=by omega
  have h3:=wr1 (i:=i) (by omega)
  have e:=qss T hV es[i]
  rw[List.drop_eq_getElem_cons hlt,List.drop_eq_getElem_cons hlt',evB] at ha;by_cases c:es[i].Typ=vs[i].Typ
  ·cases hk:okV es[i] with
   |true =>
    rw[hk,decide_eq_true c,Bool.true_and,Bool.true_and] at ha;rw[hk] at e;have hx':=hx (i+1) ⟨by omega,ha⟩ (by omega)
    simp[h1,h1',hlt,hlt',c,e,bne,h3];exact hx' _ _ (by simp)
   |false =>
    rw[hk,Bool.and_false,Bool.false_and] at ha;rw[hk] at e;have hr':=hr ha
    simp[h1,h1',hlt,hlt',c,e,bne];exact hr' _ _ (by simp[Fr.get]) (by simp[qar,gh])
  ·rw[decide_eq_false c,Bool.false_and,Bool.false_and] at ha;have g:=qac c
   have hr':=hr ha
   simp[h1,h1',hlt,hlt',g,bne];exact hr' _ _ (by simp[Fr.get]) (by simp[qar,gh])
 ·have:i=es.length:=by omega
  subst this;rw[List.drop_of_length_le (zzt _),List.drop_of_length_le (by omega)] at ha
  have he':=he ha
  have h1 : ¬((es.length:Int)<es.length):=by omega
  simp;exact he'
theorem qIe (T:Tab) (hR:HR T) (hV:HV T) (vs:List AVar) (es:List AValue) (tv te:Bool) (hn:vs.length≤1000):T.val 1041 [.l (K1 2) (vs.map AVar.dv) tv,.l (K1 2) (es.map AValue.dv) te]=some (.d (.b (evB vs es)),false):=by
 rw[qab T (hR 1041 F1041 rfl) rfl];by_cases hl:vs.length=es.length
 ·have lp:=fun k r fr H => @qBF T hV vs es tv te hn hl k r fr H
  have hli:((vs.length:Int)==(es.length:Int))=true:=by simp[hl]
  simp[F1041,Fr.ofArgs,hl,bne];refine lp _ _ _ _ (fun h => ?_) (fun h fr J h4 hg => ?_) (by simp)
  ·rw[h];simp
  ·rw[h];simp[h4,hg]
 ·have hli:((vs.length:Int)==(es.length:Int))=false:=qac (by omega)
  have hli2 : ¬((vs.length:Int)=(es.length:Int)):=by omega
  rw[qpS vs es hl];simp[F1041,Fr.ofArgs,hli,bne]
theorem qH6 (T:Tab) (hN:HNx T) (hA:HA T) (hR:HR T) (hV:HV T) (vs:List AVar) (es:List AValue) (tv te:Bool) (hv:vs.length≤1000) (hi : ∀e∈es,e.i) (h945:T.val 945 [.l (K1 2) (vs.map AVar.dv) tv]=some (.d (I 0),false)) (h1040:T.val 1040 [.l (K1 2) (vs.map AVar.dv) tv]=some (.d (I 0),false)) (x:AExpr) (hx:x.ok) (hc:qav x.dv 100≤100) :
  ∃q:AValue×Int,T.val 916 [x.dv,.l (K1 2) (vs.map AVar.dv) tv,.l (K1 2) (es.map AValue.dv) te]=some (qal q)∧T.val 1031 [x.dv,.l (K1 2) (vs.map AVar.dv) tv,.l (K1 2) (es.map AValue.dv) te]=some (qal q):=by
 have hT:=hN.hT
 have hS:=hN.hS
 have e946:=qx4 T hT vs es tv te hv
 have e1041:=qIe T hR hV vs es tv te hv
 obtain⟨n,e399,e859,hn0⟩:=qJB T hN x hx hc;generalize hEE:DV.l (K1 2) (es.map AValue.dv) te=E at *
 generalize hVV:DV.l (K1 2) (vs.map AVar.dv) tv=V at *
 by_cases h:n=0
 ·subst h;have hRT:=hn0 rfl
  obtain⟨p,e400,e860⟩:=qJC T hS hT hA vs tv hv _ x (Nat.lt_succ_self _) hx hRT;rw[hVV] at e400 e860;by_cases hp:p.2=0
  ·obtain⟨p1,p2⟩:=p;simp only at hp;subst hp;unfold two at e400 e860;have e387:T.val 387 [x.dv,V]=some (.t [.d (I p1),.d (I 0)],false):=by
    rw[qab T (hT 387 qgd rfl) rfl];simp[qgd,Fr.ofArgs,e399,e400]
   have e769:T.val 769 [x.dv,V]=some (.t [.d (I p1),.d (I 0)],false):=by
    rw[qab T (hS 769 qhz rfl) rfl];simp[qhz,Fr.ofArgs,e859,e860]
   cases hb:evB vs es with
   |true =>
    rw[hb] at e946 e1041;obtain⟨p',h400,hq⟩:=qHY T hT hA hR hV hS vs es tv te hv (qpR vs es hi hb) _ x (Nat.lt_succ_self _) hx hRT;rw[hVV] at h400 hq;rw[hEE] at hq;have hp':p'.2=0:=by
     rw[e400] at h400;unfold two at h400;injection h400 with h;injection h with h _;injection h with h;injection h with _ h;injection h with h _;injection h with h;injection h with _ h
     exact h.symm
    obtain⟨⟨v,f⟩,e947,e1042,-⟩:=hq hp';refine⟨(v,f),?_,?_⟩
    ·unfold qal at e947⊢;rw[qab T (hT 916 qeD rfl) rfl];simp[qeD,Fr.ofArgs,h945,e387,e946,e947]
    ·unfold qal at e1042⊢;rw[qab T (hR 1031 qgN rfl) rfl];simp[qgN,Fr.ofArgs,h1040,e769,e1041,e1042]
   |false =>
    rw[hb] at e946 e1041;refine⟨(⟨0,0⟩,1),?_,?_⟩
    ·unfold qal;rw[qab T (hT 916 qeD rfl) rfl];simp[qeD,Fr.ofArgs,h945,e387,e946,↓qan,↓qaq,mkA,qag,AValue.dv]
    ·unfold qal;rw[qab T (hR 1031 qgN rfl) rfl];simp[qgN,Fr.ofArgs,h1040,e769,e1041,↓qan,↓qaq,mkA,qag,AValue.dv]
  ·have g:=qac hp
   unfold two at e400 e860;have e387:T.val 387 [x.dv,V]=some (.t [.d (I p.1),.d (I p.2)],false):=by
    rw[qab T (hT 387 qgd rfl) rfl];simp[qgd,Fr.ofArgs,e399,e400]
   have e769:T.val 769 [x.dv,V]=some (.t [.d (I p.1),.d (I p.2)],false):=by
    rw[qab T (hS 769 qhz rfl) rfl];simp[qhz,Fr.ofArgs,e859,e860]
   refine⟨(⟨0,0⟩,p.2),?_,?_⟩
   ·unfold qal;rw[qab T (hT 916 qeD rfl) rfl];simp[qeD,Fr.ofArgs,h945,e387,g,bne,↓qan,↓qaq,mkA,qag,AValue.dv]
   ·unfold qal;rw[qab T (hR 1031 qgN rfl) rfl];simp[qgN,Fr.ofArgs,h1040,e769,g,bne,↓qan,↓qaq,mkA,qag,AValue.dv]
 ·have g:=qac h
  have e387:T.val 387 [x.dv,V]=some (.t [.d (I 0),.d (I n)],false):=by
   rw[qab T (hT 387 qgd rfl) rfl];simp[qgd,Fr.ofArgs,e399,g,bne]
  have e769:T.val 769 [x.dv,V]=some (.t [.d (I 0),.d (I n)],false):=by
   rw[qab T (hS 769 qhz rfl) rfl];simp[qhz,Fr.ofArgs,e859,g,bne]
  refine⟨(⟨0,0⟩,n),?_,?_⟩
  ·unfold qal;rw[qab T (hT 916 qeD rfl) rfl];simp[qeD,Fr.ofArgs,h945,e387,g,bne,↓qan,↓qaq,mkA,qag,AValue.dv]
  ·unfold qal;rw[qab T (hR 1031 qgN rfl) rfl];simp[qgN,Fr.ofArgs,h1040,e769,g,bne,↓qan,↓qaq,mkA,qag,AValue.dv]
end Go.Sim
end
end
section
namespace Go.Sim
end Go.Sim
end
section
open Go.Sim
attribute [local simp ↓] qd4 qd2 qdU qd3 qdR qdV qdS qdT sqK blK lpK qd9 qd7 qd5 qd8 qd6 qdN qdP qeC qdv qdt qdu qdy qcZ qc0 qcJ qcM qcY qc2 qcL qc3 qcS qcU qcV qcW qc1 qcX qcK qcN qcO qcP qcT qdr qdo qc5 qc4 qdd qc6 qbP qbW qc7 qc8 qeb qcB qea qeA qcE qdj qdk qde qdg qdf qcq qds qcs qda qdn qdi qdh qdc qdb qdm qdp qc9 qdl qdO qcp qcC qdE qeh qcc qdF qct qcu qdq qch qez qcQ qdw qdx qee qeB qec qdW qdX qdY qdZ qd0 qd1 qcR qdD qeF qeS qeT qeQ qeR qeP qeE qeW qeU qe1 qeV qe6 qfh qcr
attribute [local simp] qb3 qef qeg qdI qdJ qdz qdA qex qey qdG qdH rd IOp.adds qaw gh nid rgK rdS qdK qdL qei qej qeo qep qes qen qer qeq qcH qcF qcG qel qek qdC qdB qeu qet qev qew qeJ qeI qeK qbA qeN qeH qeO qe4 qe0 qe3 qe2
section
namespace Go.Sim
set_option maxRecDepth 10000
end Go.Sim
end
section
namespace Go.Sim
set_option maxRecDepth 10000
section
variable {R : Type} {y : PV → Option R}
theorem qwl : ∀(l:List PV) (c:Nat) (v:PV),c<l.length→qag [v]=none→qag (l.set c v)=none
 |x::l,0,v,_,hv=>by
  rw[List.set_cons_zero];cases v with
  |d x=>simp[qag] at hv
  | _=>rfl
 |x::l,c+1,v,h,hv=>by
  rw[List.set_cons_succ];have ih:=qwl l c v (by simpa using h) hv
  cases x with
  |d x=>simp only[qag,ih]
  | _=>rfl
theorem qGY {α:Type} (l:List α) (c:Nat) (v:α) (h:c<l.length):putAt l c [v]=l.set c v:=by
 unfold putAt;rw[List.set_eq_take_append_cons_drop,if_pos h];simp
theorem qCP {n c o off len:Nat} {l:List PV} {k:K} {t:Bool}:bo (mkP (some n) (putAt l c (PV.cells (.r o k off len t)))) (.h y)=chk (l.length=n∧c<n) (.h (y (.a (l.set c (.r o k off len t)))))∨¬(l.length=n∧c<n):=by
 by_cases h:l.length=n∧c<n
 ·left
  have hc:c<l.length:=by omega
  unfold chk;rw[if_pos h];show bo (mkP (some n) (putAt l c [_])) _=_
  rw[qGY _ _ _ hc];simp only[mkP,List.length_set,h.1,if_true,mkA,qwl l c (.r o k off len t) hc rfl,bo]
 ·exact .inr h
theorem qCN {n c o off len:Nat} {l:List PV} {k:K} {t:Bool} {z:Option R} (h:l.length=n∧c<n) (hy:y (.a (l.set c (.r o k off len t)))=z):bo (mkP (some n) (putAt l c (PV.cells (.r o k off len t)))) (.h y)=z:=by
 rcases qCP (y:=y) (n:=n) (c:=c) (o:=o) (off:=off) (len:=len) (l:=l) (k:=k) (t:=t) with h1|h1
 ·rw[h1];unfold chk;rw[if_pos h];exact hy
 ·exact absurd h h1
theorem qrz {n c o off len:Nat} {l:List PV} {k:K} {t:Bool} (h:l.length=n∧c<n):bo (mkP (some n) (putAt l c (PV.cells (.r o k off len t)))) (.h y)=y (.a (l.set c (.r o k off len t))):=qCN h rfl
theorem qGZ (l xs:List DV) (c:Nat):putAt (l.map PV.d) c (xs.map PV.d)=(putAt l c xs).map PV.d:=by
 simp only[putAt,List.map_append,List.map_take,List.map_drop,zzo]
theorem qCQ {n c:Nat} {l:List DV} {v:DV} (h:putAt l c v.cells=l) (hn:l.length=n):bo (mkP (some n) (putAt (l.map PV.d) c (v.cells.map PV.d))) (.h y)=y (.d (.a l)):=by
 rw[qGZ,h];have:(l.map PV.d).length=n:=by simpa using hn
 simp only[mkP,this,if_true,mkA,qrT,bo]
theorem qvI {n c:Nat} {v w:DV} (h:putAt v.cells c w.cells=v.cells) (hv:DV.a v.cells=v) (hn:v.cells.length=n):bo (mkP (some n) (putAt (PV.cells (.d v)) c (PV.cells (.d w)))) (.h y)=y (.d v):=by
 rw[qcb,qcb,qCQ h hn,hv]
theorem qcv (k:K) (es:List DV) (t:Bool):DV.cells (.l k es t)=[.l k es t]:=rfl
theorem qso {n c:Nat} {l:List PV}:bo (qgM (some n) (.a l) c none) (.h y)=chk (c<n) (.h (bo l[c]? (.h y))):=by
 unfold chk;simp only[qgM,K.eq,Bool.and_false,zzg,if_false];change bo (@ite _ (c+1≤n) (Nat.decLe _ _) (mkP none ((List.drop c l).take 1)) none) (.h y)=_
 by_cases h:c<n
 ·rw[if_pos h,if_pos (by omega),qsp]
  cases l[c]? <;> rfl
 ·rw[if_neg h,if_neg (by omega)];rfl
theorem qls (l:List PV):PV.cells (.a l)=l:=rfl
theorem qlD {n:Nat} {l:List PV}:fits (some n) (.a l)=(l.length==n):=rfl
def qjY (H:Heap) (l:List PV) (xs:List DV):Prop:=∃os,qfc H l=some (xs,os)
theorem qwv (H:Heap) : ∀xs:List DV,qjY H (xs.map .d) xs
 | []=>⟨[],rfl⟩
 |x::xs=>by
  obtain⟨os,h⟩:=qwv H xs;exact⟨_,by simp only[zzu,qfc,qbd,h];rfl⟩
theorem qwz {H:Heap} {o ro:Nat} {k:K} {es:List DV} {t:Bool} : ∀{l:List PV} {xs:List DV} {c:Nat},qjY H l xs→H.obj o=some (.sl k ro es)→xs[c]? = some (.l k es false)→qjY H (l.set c (.r o k 0 es.length t)) xs
 | [],xs,c,h,_,hc=>by
  obtain⟨os,h⟩:=h;cases h;simp at hc
 |v::l,xs,c,h,ho,hc=>by
  obtain⟨os,h⟩:=h;simp only[qfc] at h;cases h1:qbd H v with
  |none=>simp[h1] at h
  |some p =>
   cases h2:qfc H l with
   |none=>simp[h1,h2] at h
   |some q =>
    obtain⟨p,p'⟩:=p;obtain⟨q,q'⟩:=q;simp only[h1,h2,zzb,zzc] at h;obtain⟨rfl,-⟩:=h;cases c with
    |zero =>
     simp only[List.getElem?_cons_zero,zzb] at hc;subst hc;rw[List.set_cons_zero];exact⟨_,by simp only[qfc,qbd,ho,h2,Nat.zero_add,zzt,and_self,if_true,List.drop_zero,List.take_length];rfl⟩
    |succ c =>
     simp only[List.getElem?_cons_succ] at hc;obtain⟨os,h3⟩:=qwz (t:=t) ⟨_,h2⟩ ho hc;rw[List.set_cons_succ];exact⟨_,by simp only[qfc,h1,h3];rfl⟩
theorem qGV {H:Heap} {o ro n:Nat} {k:K} {es:List DV} {t:Bool} {l:List PV} {xs:List DV} {c:Nat} (h:qjY H l xs) (ho:H.obj o=some (.sl k ro es)) (hc:xs[c]? = some (.l k es false)) (hn:n=es.length):qjY H (l.set c (.r o k 0 n t)) xs:=by
 rw[hn];exact qwz h ho hc
theorem qGW {H:Heap} {l:List PV} {xs:List DV} (h:qjY H l xs):purT H (.a l)=some (.d (.a xs),false):=by
 obtain⟨os,h⟩:=h;simp only[purT,pur,h]
end
def HCl (T:Tab) (f:Nat) (k:K) (b:Nat):Prop:=∀ds,T.val f ds=qlv k b ds
theorem qAa {T:Tab} {f:Nat} {k:K} {b:Nat} (h:HCl T f k b) {es:List DV} {t:Bool} (hb:es.length*b≤qb4):T.val f [.l k es t]=some (.d (.l k es false),true):=by
 rw[h,qlv];have:es.length*b≤2^47:=hb
 simp[this,qb3]
end Go.Sim
end
end
section
namespace Go.Sim
noncomputable def tabA28:PT :=
 (.bin 886 qk7 (.bin 802 qhA (.bin 800 qgf (.bin 717 F717 .nil .nil) .nil) (.bin 878 F878 .nil .nil)) (.bin 932 F932 (.bin 887 qk8 .nil .nil) (.bin 1124 qol .nil .nil)))
def H8 (T:Tab):Prop:=∀n F,tabA28.get n=some F→T.F n=some F
end Go.Sim
end
section
open Go.Sim
attribute [local simp ↓] qd4 qd2 qdU qd3 qdR qdV qdS qdT sqK blK lpK qd9 qd7 qd5 qd8 qd6 qdN qdP qeC qdv qdt qdu qdy qcZ qc0 qcJ qcM qcY qc2 qcL qc3 qcS qcU qcV qcW qc1 qcX qcK qcN qcO qcP qcT qdr qdo qc5 qc4 qdd qc6 qbP qbW qc7 qc8 qeb qcB qea qeA qcE qdj qdk qde qdg qdf qcq qds qcs qda qdn qdi qdh qdc qdb qdm qdp qc9 qdl qdO qcp qcC qdE qeh qcc qdF qct qcu qdq qch qez qcQ qdw qdx qee qeB qec qdW qdX qdY qdZ qd0 qd1 qcR qdD qeF qeS qeT qeQ qeR qeP qeE qeW qeU qe1 qeV qe6 qfh qcr
attribute [local simp] qb3 qef qeg qdI qdJ qdz qdA qex qey qdG qdH rd IOp.adds qaw gh nid rgK rdS qdK qdL qei qej qeo qep qes qen qer qeq qcH qcF qcG qel qek qdC qdB qeu qet qev qew qeJ qeI qeK qbA qeN qeH qeO qe4 qe0 qe3 qe2
section
namespace Go.Sim
attribute [local simp ↓] qbh qbj qbb qbB qbi qbK qa8 qba qbr qbD qbE qbt qbu qa9 qbz qbe qbU qbT qfm qbJ qbG qfv qfu qbg qfi qbQ qfj qfl qfk qbI qbH qfo qfq qft qfs qfr qfn qfp qfw qby qbF
attribute [local simp] qbc qaT writeS touchS qax qaI chg qaZ qaO qaE qaP PV.refs PV.refsL IOp.okD IOp.barr qbo Nat.testBit
attribute [local simp] gc Fr.keep qaf qae qad PV.refs PV.refsL qah gcH qaj Obj.refs PV.ren PV.renL Obj.ren Heap.obj Fr.ren gh zzd
set_option maxRecDepth 10000
set_option maxHeartbeats 4000000
theorem qx3 (T:Tab) (h8:H8 T) (hc:HCl T 956 (K1 4) 56) : ∀(n:Nat) (x:AExpr),SizeOf.sizeOf x.dv≤n→x.ok→T.val 932 [x.dv]=some (.d x.dv,false):=by
 intro n;induction n with
 |zero =>
  intro x hn _;exfalso
  have:0<SizeOf.sizeOf x.dv:=by rw[AExpr.dv];simp;omega
  omega
 |succ n ih =>
  intro x hn hx;obtain⟨_,_,_,hX⟩:=hx;obtain⟨h1,l,h2,h3⟩:=qpg hX;obtain⟨o,m,s,a⟩:=x;obtain⟨a,t⟩:=a;simp only at h1 h2 hX;subst h2;have ht:t=false:=by cases hX;rfl
  subst ht;have hb:l.length*56≤140737488355328:=by cases hX with|mk _ _ _ h=>simpa[qb4] using h
  have e0:=qAa hc (es:=l.map AExpr.dv) (t:=false) (by simpa[qb4] using hb)
  have ihl : ∀i (h:i<l.length),T.val 932 [(l[i]).dv]=some (.d (l[i]).dv,false):=fun i h=>ih l[i] (by have:=List.sizeOf_lt_of_mem (List.mem_map_of_mem (f:=AExpr.dv) (zzs h));simp only[AExpr.dv,DV.a.sizeOf_spec,List.cons.sizeOf_spec,DV.l.sizeOf_spec] at hn this⊢;omega) (h3 _ (zzs h))
  rw[qab T (h8 932 F932 rfl) rfl];simp[F932,Fr.ofArgs,e0,qil,qak,↓qrz,↓qso,qcb];refine qbN (fun i:Nat=>⟨[(11,.d (I i)),(10,.d (I l.length)),(2,.p 0 0 0),(1,.p 1 0 0)],[some (.box (K1 4) (.d (.a [I 0,I 0,.s [],.l (K1 4) [] true]))),some (.box (K1 4) (.a (((AExpr.dv ⟨o,m,s,⟨l.map AExpr.dv,false⟩⟩).cells.map PV.d).set 3 (.r 2 (K1 4) 0 l.length false)))),some (.sl (K1 4) 0 (l.map AExpr.dv))]⟩) (fun i=>i≤l.length) (fun i=>l.length-i) ?_ 0 (Nat.zero_le _) (by simp[AExpr.dv,qbf])
  rintro B-i hi hx;by_cases hlt:i<l.length
  ·have h1:(i:Int)<l.length:=by omega
   have h3:=wr1 (i:=i) (by omega)
   have hx':=hx (i+1) (by omega) (by omega)
   have e:=ihl i hlt
   simp[h1,hlt,h3,e,↓qso,↓qiV,-qch,↓qn2,↓qn1,↓qjr];have hse:(l.map AExpr.dv).set i l[i].dv=l.map AExpr.dv:=by
    have h0:(l.map AExpr.dv)[i]'(by simpa using hlt)=l[i].dv:=List.getElem_map ..
    rw[←h0];exact List.set_getElem_self ..
   rw[hse];exact hx' _ _ (by simp[AExpr.dv,qbf])
  ·have:i=l.length:=by omega
   subst this;have h1 : ¬((l.length:Int)<l.length):=by omega
   simp[qlD];refine (qGW (xs:=(AExpr.dv ⟨o,m,s,⟨l.map AExpr.dv,false⟩⟩).cells) ?_).trans rfl;exact qGV (qwv _ _) rfl rfl (by simp)
end Go.Sim
end
section
namespace Go.Sim
attribute [local simp ↓] qbh qbj qbb qbB qbi qbK qa8 qba qbr qbD qbE qbt qbu qa9 qbz qbe qbU qbT qfm qbJ qbG qfv qfu qbg qfi qbQ qfj qfl qfk qbI qbH qfo qfq qft qfs qfr qfn qfp qfw qby qbF
attribute [local simp] qbc qaT writeS touchS qax qaI chg qaZ qaO qaE qaP PV.refs PV.refsL IOp.okD IOp.barr qbo Nat.testBit
set_option maxRecDepth 10000
set_option maxHeartbeats 4000000
def qfH (f:AFee) (E:DV):DV:=.a [.s f.Name,I f.Event,I f.When.Op,I f.When.N,.s f.When.S,.l (K1 4) f.When.Args.l f.When.Args.t,I f.Amount.Op,I f.Amount.N,.s f.Amount.S,.l (K1 4) f.Amount.Args.l f.Amount.Args.t,E]
@[simp] theorem qwg (f:AFee) (E:DV):Sim.fits (K1 11) (.d (qfH f E))=true:=rfl
@[simp] theorem qKF (f:AFee) (E:DV) (H:Heap):Sim.purT H (.d (qfH f E))=some (.d (qfH f E),false):=rfl
@[simp] theorem qKC (f:AFee) (E:DV):(qfH f E).cells.length=11:=rfl
@[simp] theorem qKD (f:AFee) (E:DV):((qfH f E).cells.drop 2).take 4=AExpr.cells f.When:=rfl
@[simp] theorem qKE (f:AFee) (E:DV):((qfH f E).cells.drop 6).take 4=AExpr.cells f.Amount:=rfl
@[simp] theorem qKB (f:AFee) (E:DV):(qfH f E).cells[10]? = some E:=rfl
theorem qxY (T:Tab) (h8:H8 T) (f:AFee) (V:DV) (es:List DV) (te o:Bool) (q:AValue×Int) (e371:T.val 371 []=some (.d V,o)) (e916:T.val 916 [f.When.dv,V,.l (K1 2) es te]=some (qal q)):T.val 886 [qfH f (.l (K1 2) es te)]=some (qal q):=by
 unfold qal at e916⊢;rw[qab T (h8 886 qk7 rfl) rfl];simp[qk7,Fr.ofArgs,e371,e916]
theorem qxZ (T:Tab) (h8:H8 T) (f:AFee) (V:DV) (es:List DV) (te o:Bool) (q:AValue×Int) (e371:T.val 371 []=some (.d V,o)) (e916:T.val 916 [f.Amount.dv,V,.l (K1 2) es te]=some (qal q)):T.val 887 [qfH f (.l (K1 2) es te)]=some (qal q):=by
 unfold qal at e916⊢;rw[qab T (h8 887 qk8 rfl) rfl];simp[qk8,Fr.ofArgs,e371,e916]
def qiX (p q:AValue×Int):Int×Int:=if p.2=0∧p.1.Typ=5∧p.1.N=1 then (if q.2=0 then (max 0 q.1.N,0) else (0,q.2)) else (0,p.2)
theorem qxX (T:Tab) (h8:H8 T) (D:DV) (hD:Sim.fits (K1 11) (.d D)=true) (p q:AValue×Int) (e1:T.val 886 [D]=some (qal p)) (e2:T.val 887 [D]=some (qal q)):T.val 802 [D]=some (two (qiX p q)):=by
 unfold qal at e1 e2;unfold two qiX;obtain⟨⟨t,n⟩,e⟩:=p;obtain⟨⟨u,m⟩,f⟩:=q;simp only[AValue.dv] at e1 e2⊢;rw[qab T (h8 802 qhA rfl) rfl];by_cases h0:e=0
 ·by_cases h1:t=5
  ·by_cases h2:n=1
   ·by_cases h3:f=0
    ·rw[if_pos ⟨h0,h1,h2⟩,if_pos h3];simp[qhA,Fr.ofArgs,hD,eqA,eqL,eqK,↓qan,↓qaq,↓qap,putAt,mkA,qag,qak,qam,qbf,qji,e1,e2,h0,h1,h2,h3]
    ·have g3:=qac h3
     rw[if_pos ⟨h0,h1,h2⟩,if_neg h3];simp[qhA,Fr.ofArgs,hD,eqA,eqL,eqK,↓qan,↓qaq,↓qap,putAt,mkA,qag,qak,qam,e1,e2,h0,h1,h2,g3,bne]
   ·have g2:=qac h2
    rw[if_neg (fun c=>h2 c.2.2)]
    simp[qhA,Fr.ofArgs,hD,eqA,eqL,eqK,↓qan,↓qaq,↓qap,putAt,mkA,qag,qak,qam,e1,h0,h1,g2,bne]
  ·have g1:=qac h1
   rw[if_neg (fun c=>h1 c.2.1)]
   simp[qhA,Fr.ofArgs,hD,eqA,eqL,eqK,↓qan,↓qaq,↓qap,putAt,mkA,qag,qak,qam,e1,h0,g1,bne]
 ·have g0:=qac h0
  rw[if_neg (fun c=>h0 c.1)]
  simp[qhA,Fr.ofArgs,hD,qag,e1,g0,bne]
end Go.Sim
end
section
namespace Go.Sim
set_option maxRecDepth 10000
set_option maxHeartbeats 4000000
end Go.Sim
end
section
namespace Go.Sim
set_option maxRecDepth 10000
set_option maxHeartbeats 4000000
theorem quf (id frm upto:Int) : ∀(l:List AEntry) (i:Nat) (n:Int),(-9223372036854775808≤n∧n<9223372036854775808)→-9223372036854775808≤qat (qeZ id frm upto) i n l∧qat (qeZ id frm upto) i n l<9223372036854775808
 | [],_,_,h=>h
 |x::l,i,n,h=>by
  rw[qat];refine quf id frm upto l (i+1) _ ?_;unfold qeZ;split
  ·exact qmi _
  ·exact h
theorem qtU (b:ABooks) (id day amount:Int) : ∀p∈(qaX b id day amount).1,-9223372036854775808≤p.2∧p.2<9223372036854775808:=by
 intro p hp;unfold qaX at hp;split at hp
 ·cases hp
 ·split at hp
  ·split at hp
   ·rename_i a _ hv ha;simp only[List.mem_append,List.mem_map,List.mem_cons,List.not_mem_nil,or_false] at hp;rcases hp with ⟨n,hn,rfl⟩|rfl|rfl|rfl
    ·have:=List.all_eq_true.1 ha n hn
     simp only[wth,MA,zzf,zzq] at this;simp only;omega
    ·exact quf id _ _ _ 0 0 (by decide)
    ·exact qmi _
    ·have:0≤day∧day≤73048:=by
      simp only[zzf] at hv
      have:=hv.1
      unfold qbq at this;simp only[zzf,zzq] at this;omega
     simp only;omega
   ·cases hp
  ·cases hp
theorem qs9 {l:List AProduct} {nm:List UInt8} {day:Int} {p:AProduct} (h:atP l nm day=some p):p∈l:=by
 unfold atP at h;split at h
 ·cases h
 ·exact List.mem_of_getElem? h
structure HEv (T:Tab):Prop where
 hT:HT T
 hU:HU T
 hV:HV T
 hC:HC T
 hW:HWd T
 hA:HA T
 vars : ∃(vs:List AVar) (t o:Bool),T.val 371 []=some (.d (.l (K1 2) (vs.map AVar.dv) t),o)∧vs.length≤1000∧T.val 945 [.l (K1 2) (vs.map AVar.dv) t]=some (.d (I 0),false)
theorem qxk (T:Tab) (h:HEv T) (x:AExpr) (hx:x.ok) (b:ABooks) (id day amount:Int) (te:Bool) : ∃(V:DV) (o:Bool) (q:AValue×Int),T.val 371 []=some (.d V,o)∧T.val 916 [x.dv,V,.l (K1 2) ((qaX b id day amount).1.map V2) te]=some (qal q):=by
 obtain⟨vs,t,o,e1,hn,e2⟩:=h.vars;have hm:(qaX b id day amount).1.map V2=((qaX b id day amount).1.map fun p=>(⟨p.1,p.2⟩:AValue)).map AValue.dv:=by rw[List.map_map];rfl
 obtain⟨q,hq⟩:=qJQ T h.hT h.hA (hnm T h.hT h.hC h.hW) vs ((qaX b id day amount).1.map fun p=>(⟨p.1,p.2⟩:AValue)) t te hn (fun e he=>by
  obtain⟨p,hp,rfl⟩:=List.mem_map.1 he;exact qtU b id day amount p hp) e2 x hx
 exact⟨_,o,q,e1,by rw[hm];exact hq⟩
end Go.Sim
end
section
namespace Go.Sim
attribute [local simp ↓] qbh qbj qbb qbB qbi qbK qa8 qba qbr qbD qbE qbt qbu qa9 qbz qbe qbU qbT qfm qbJ qbG qfv qfu qbg qfi qbQ qfj qfl qfk qbI qbH qfo qfq qft qfs qfr qfn qfp qfw qby qbF
attribute [local simp] qbc qaT writeS touchS qax qaI chg qaZ qaO qaE qaP PV.refs PV.refsL IOp.okD IOp.barr qbo Nat.testBit
attribute [local simp] gc Fr.keep qaf qae qad PV.refs PV.refsL qah gcH qaj Obj.refs PV.ren PV.renL Obj.ren Heap.obj Fr.ren gh zzd
set_option maxRecDepth 10000
set_option maxHeartbeats 4000000
def qbv (ev:Int) (f:AFee):Bool:=f.Event==ev
theorem qCn (T:Tab) (h8:H8 T) (hc:HCl T 956 (K1 4) 56) (l:List AFee) (t:Bool) (ev:Int) (hn:l.length≤1000) (ho : ∀f∈l,f.ok) {k:KC (PV×Bool)} {r:Option (PV×Bool)} {fr:Fr} {H:Heap}
  (he:k (.exit 0) [(12,.d (.b false)),(11,.d (I l.length)),(10,.d (I l.length)),(9,.d (.l (K1 10) (l.map AFee.dv) t)),(5,qao (K1 10) ((l.filter (qbv ev)).map AFee.dv)),(1,.d (I ev))] (qa7 (K1 10) ((l.filter (qbv ev)).map AFee.dv))=r)
  (h0:gc [1,5,9,10,11] 0 ⟨fr,H⟩=⟨[(11,.d (I 0)),(10,.d (I l.length)),(9,.d (.l (K1 10) (l.map AFee.dv) t)),(5,qao (K1 10) []),(1,.d (I ev))],qa7 (K1 10) []⟩) :
  kC T.env 0 fr H (.h (.loop [1,5,9,10,11] qjV,k))=r:=by
 refine qbN (fun p:Nat×List AFee=>⟨[(11,.d (I p.1)),(10,.d (I l.length)),(9,.d (.l (K1 10) (l.map AFee.dv) t)),(5,qao (K1 10) (p.2.map AFee.dv)),(1,.d (I ev))],qa7 (K1 10) (p.2.map AFee.dv)⟩) (fun p=>p.1≤l.length∧p.2=(l.take p.1).filter (qbv ev)) (fun p=>l.length-p.1) ?_ (0,[]) ⟨Nat.zero_le _,rfl⟩ h0
 rintro B-⟨i,o⟩ ⟨hi,ha⟩ hx;simp only at hi ha hx⊢;by_cases hlt:i<l.length
 ·have h1:(i:Int)<l.length:=by omega
  have h3:=wr1 (i:=i) (by omega)
  have hol:o.length≤i:=by rw[ha];exact Nat.le_trans (List.length_filter_le _ _) (by simp;omega)
  have hst:(l.take (i+1)).filter (qbv ev)=if qbv ev l[i]=true then o++[l[i]] else o:=by
   rw[List.take_succ_eq_append_getElem hlt,List.filter_append,←ha,List.filter_cons];split<;>simp
  obtain⟨f,hf⟩ : ∃f,l[i]=f:=⟨_,rfl⟩;have hfo:f.ok:=by rw[←hf];exact ho _ (zzs hlt)
  rw[hf] at hst;have e0:=qx3 T h8 hc _ f.When (zzt _) (hfo.2.2.1)
  have p0:=fun (y:PV→Option (PV×Bool))=>qvI (y:=y) (n:=10) (c:=2) (v:=f.dv) (w:=f.When.dv) rfl rfl rfl
  have e1:=qx3 T h8 hc _ f.Amount (zzt _) (hfo.2.2.2)
  have p1:=fun (y:PV→Option (PV×Bool))=>qvI (y:=y) (n:=10) (c:=6) (v:=f.dv) (w:=f.Amount.dv) rfl rfl rfl
  by_cases hv:f.Event=ev
  ·rw[if_pos (show qbv ev f=true by simp[qbv,hv])] at hst
   have hx':=fun hm=>hx (i+1,o++[f]) ⟨by show i+1≤l.length;omega,hst.symm⟩ hm
   simp only[List.map_append,zzu,List.map_nil] at hx';have hx2:=hx' (by omega)
   clear hx' hx
   generalize ho':o.map AFee.dv=od at *
   have hod:od.length≤i:=by rw[←ho',zzo];exact hol
   cases od with
   |nil =>
    simp only[qao,qa7,List.nil_append] at hx2⊢;simp[h1,hlt,h3,hf,hv,e0,↓p0,e1,↓p1,qas,qcb];exact hx2 _ _ (by simp[AFee.dv])
   |cons x od =>
    simp only[qao,qa7,List.cons_append] at hx2⊢;simp only[zzn] at hod;have h5:(od.length+1+1)*136≤140737488355328:=by omega
    have ht:od.take od.length=od:=List.take_of_length_le (by simp)
    simp[h1,hlt,h3,hf,hv,h5,ht,e0,↓p0,e1,↓p1,qas,qcb];exact hx2 _ _ (by simp[AFee.dv])
  ·rw[if_neg (show ¬qbv ev f=true by simp[qbv,hv])] at hst
   have hx2:=hx (i+1,o) ⟨by show i+1≤l.length;omega,hst.symm⟩ (by show l.length-(i+1)<l.length-i;omega)
   clear hx
   have gv:=qac hv
   generalize ho':o.map AFee.dv=od at *
   cases od with
   |nil =>
    simp only[qao,qa7] at hx2⊢;simp[h1,hlt,h3,hf,gv];exact hx2 _ _ (by simp[AFee.dv])
   |cons x od =>
    simp only[qao,qa7] at hx2⊢;simp[h1,hlt,h3,hf,gv];exact hx2 _ _ (by simp[AFee.dv])
 ·have:i=l.length:=by omega
  subst this;rw[List.take_length] at ha;subst ha;have h1 : ¬((l.length:Int)<l.length):=by omega
  simp;exact he
theorem qJF (T:Tab) (h8:H8 T) (hc:HCl T 956 (K1 4) 56) (p:AProduct) (ev:Int) (hn:p.Fees.l.length≤1000) (ho : ∀f∈p.Fees.l,f.ok):T.val 878 [p.dv,I ev]=some (.d (.l (K1 10) ((p.Fees.l.filter (qbv ev)).map AFee.dv) false),true):=by
 have lp:=fun k r fr H => @qCn T h8 hc p.Fees.l p.Fees.t ev hn ho k r fr H
 rw[qab T (h8 878 F878 rfl) rfl];cases hl:p.Fees.l.filter (qbv ev) with
 |nil =>
  rw[hl] at lp;simp[F878,Fr.ofArgs];refine lp _ _ _ _ ?_ (by simp[qao,qa7])
  simp[qao,qa7]
 |cons x o =>
  rw[hl] at lp;simp[F878,Fr.ofArgs];refine lp _ _ _ _ ?_ (by simp[qao,qa7])
  have ht:(o.map AFee.dv).take o.length=o.map AFee.dv:=List.take_of_length_le (by simp)
  simp[qao,qa7,ht]
noncomputable def qfA (b:ABooks) (id day ev am:Int):List AFee×Int :=
 if (qcl b id).isSome=false then ([],11) else if qbq day=false∨qgw b id day=false then ([],16) else if ev<1∨4<ev∨am<0∨1000000000000<am then ([],1)
 else match qem b id day with|none=>([],11)|some p=>(p.Fees.l.filter (qbv ev),0)
theorem qJz (T:Tab) (h:HEv T) (h8:H8 T) (hc:HCl T 956 (K1 4) 56) (b:ABooks) (hb:b.ok) (hf : ∀p∈b.Products.l,p.Fees.l.length≤1000) (id day ev am:Int) :
  ∃t,T.val 800 [b.dv,I id,I day,I ev,I am]=some (.t [.d (.l (K1 10) ((qfA b id day ev am).1.map AFee.dv) t),.d (I (qfA b id day ev am).2)],false):=by
 have e12:=qn7 T h.hU b id hb
 have e22:=qme T h.hV day
 have e39:=qxK T h.hV h.hU b id day hb
 have e24:=qxH T h.hU b id day hb
 have hp : ∀p,qem b id day=some p→p∈b.Products.l:=by
  intro p hp;unfold qem at hp;split at hp
  ·exact qs9 hp
  ·cases hp
 have e878 : ∀p,qem b id day=some p→T.val 878 [p.dv,I ev]=some (.d (.l (K1 10) ((p.Fees.l.filter (qbv ev)).map AFee.dv) false),true):=fun p h'=>qJF T h8 hc p ev (hf p (hp p h')) (hb.2.2.2.2.1.2 p (hp p h')).2.2.2.2.2.2.2.2.2.1.2
 unfold qfA;generalize (qcl b id).getD .zero=acc at *
 generalize qgw b id day=ac at *
 generalize qbq day=vd at *
 generalize qem b id day=pr at *
 rw[qab T (h8 800 qgf rfl) rfl];cases hs:(qcl b id).isSome with
 |false =>
  rw[hs] at e12;refine⟨true,?_⟩;simp[qgf,Fr.ofArgs,e12]
 |true =>
  rw[hs] at e12;rw[if_neg (by simp)]
  cases vd with
  |false =>
   rw[if_pos (.inl rfl)];refine⟨true,?_⟩;simp[qgf,Fr.ofArgs,e12,e22]
  |true =>
   cases ac with
   |false =>
    rw[if_pos (.inr rfl)];refine⟨true,?_⟩;simp[qgf,Fr.ofArgs,e12,e22,e39]
   |true =>
    rw[if_neg (by simp)]
    by_cases h1:ev<1
    ·rw[if_pos (.inl h1)];refine⟨true,?_⟩;simp[qgf,Fr.ofArgs,e12,e22,e39,h1]
    by_cases h2:4<ev
    ·rw[if_pos (.inr (.inl h2))];refine⟨true,?_⟩;simp[qgf,Fr.ofArgs,e12,e22,e39,h1,h2]
    by_cases h3:am<0
    ·rw[if_pos (.inr (.inr (.inl h3)))];refine⟨true,?_⟩;simp[qgf,Fr.ofArgs,e12,e22,e39,h1,h2,h3]
    by_cases h4:1000000000000<am
    ·rw[if_pos (.inr (.inr (.inr h4)))];refine⟨true,?_⟩;simp[qgf,Fr.ofArgs,e12,e22,e39,h1,h2,h3,h4]
    rw[if_neg (by omega)]
    cases pr with
    |none =>
     refine⟨true,?_⟩;simp[qgf,Fr.ofArgs,e12,e22,e39,h1,h2,h3,h4,e24]
    |some p =>
     have e:=e878 p rfl
     simp only[Option.getD_some,Option.isSome_some] at e24;refine⟨false,?_⟩;show _=some (PV.t [.d (.l (K1 10) ((p.Fees.l.filter (qbv ev)).map AFee.dv) false),.d (I 0)],false)
     generalize (p.Fees.l.filter (qbv ev)).map AFee.dv=fl at *
     simp[qgf,Fr.ofArgs,e12,e22,e39,h1,h2,h3,h4,e24,e]
end Go.Sim
end
section
namespace Go.Sim
attribute [local simp] gc Fr.keep qaf qae qad PV.refs PV.refsL qah gcH qaj Obj.refs PV.ren PV.renL Obj.ren Heap.obj Fr.ren gh zzd
set_option maxRecDepth 10000
set_option maxHeartbeats 4000000
noncomputable def qgx (T:Tab) (E:DV) (f:AFee):Int×Int:=match T.val 802 [qfH f E] with|some (.t [.d (.i _ a),.d (.i _ e)],_)=>(a,e)|_=>(0,0)
theorem qyY {T:Tab} {E:DV} {f:AFee} {p:Int×Int} (h:T.val 802 [qfH f E]=some (two p)):T.val 802 [qfH f E]=some (two (qgx T E f)):=by
  have:qgx T E f=p:=by unfold qgx;rw[h];rfl
  rw[this];exact h
def chE (g:AFee→Int×Int) (f:AFee):List DV:=if 0<(g f).1 then [.a [.s f.Name,I (g f).1]] else []
def chL (g:AFee→Int×Int) (l:List AFee):List DV:=l.flatMap (chE g)
theorem qmS (g:AFee→Int×Int) : ∀l,(chL g l).length≤l.length
  | []=>zzt _
  |f::l=>by
    have:=qmS g l
    have h1:(chE g f).length≤1:=by unfold chE;split<;>simp
    show ((chE g f)++chL g l).length≤_
    rw[zzp,zzn];omega
theorem qtn (g:AFee→Int×Int) (l:List AFee) (i:Nat) (h:i<l.length):chL g (l.take (i+1))=chL g (l.take i)++chE g l[i]:=by
  unfold chL;rw[List.take_succ_eq_append_getElem h,List.flatMap_append];simp
theorem qCh (T:Tab) (l:List AFee) (t:Bool) (es:List DV) (te:Bool) (g:AFee→Int×Int) (hg : ∀f∈l,T.val 802 [qfH f (.l (K1 2) es te)]=some (two (g f))) (hn:l.length≤1000) {k:KC (PV×Bool)} {r:Option (PV×Bool)} {fr:Fr} {H:Heap}
    (he:qaG (fun f=>(g f).2) l=0→k (.exit 0) [(51,.d (.b false)),(50,.d (I l.length)),(49,.d (I l.length)),(48,.d (.l (K1 10) (l.map AFee.dv) t)),(15,qao (K1 2) (chL g l)),(14,.d (.l (K1 2) es te))] (qa7 (K1 2) (chL g l))=r)
    (hr:qaG (fun f=>(g f).2) l≠0→∀fr J,fr.get 10 = .d (.l (K1 2) [] true)→fr.get 11 = .d (I (qaG (fun f=>(g f).2) l))→qar fr=[]→k .ret fr J=r)
    (h0:gc [14,15,48,49,50] 0 ⟨fr,H⟩=⟨[(50,.d (I 0)),(49,.d (I l.length)),(48,.d (.l (K1 10) (l.map AFee.dv) t)),(15,qao (K1 2) []),(14,.d (.l (K1 2) es te))],qa7 (K1 2) []⟩) :
    kC T.env 0 fr H (.h (.loop [14,15,48,49,50] qh7,k))=r:=by
  refine qbN (fun i:Nat=>⟨[(50,.d (I i)),(49,.d (I l.length)),(48,.d (.l (K1 10) (l.map AFee.dv) t)),(15,qao (K1 2) (chL g (l.take i))),(14,.d (.l (K1 2) es te))],qa7 (K1 2) (chL g (l.take i))⟩) (fun i=>i≤l.length∧∀v∈l.take i,(g v).2=0) (fun i=>l.length-i) ?_ 0 ⟨Nat.zero_le _,by simp⟩ (by rw[h0];rfl)
  rintro B-i ⟨hi,ha⟩ hx;by_cases hlt:i<l.length
  · have h1:(i:Int)<l.length:=by omega
    have h3:=wr1 (i:=i) (by omega)
    have e:=hg l[i] (zzs hlt)
    unfold two qfH at e;have hl:(chL g (l.take i)).length≤i:=Nat.le_trans (qmS _ _) (by simp;omega)
    by_cases hs:(g l[i]).2=0
    · have hx':=hx (i+1) ⟨by omega,by
        rw[List.take_succ_eq_append_getElem hlt];intro v hv;rcases List.mem_append.1 hv with hv|hv
        · exact ha v hv
        · rw[List.mem_singleton.1 hv];exact hs⟩ (by omega)
      rw[qtn g l i hlt] at hx';unfold chE at hx';rw[hs] at e;obtain⟨f,hf⟩ : ∃f,l[i]=f:=⟨_,rfl⟩;rw[hf] at e hx';generalize chL g (l.take i)=o at *
      by_cases hp:0<(g f).1
      · rw[if_pos hp] at hx'
        cases o with
        |nil =>
          simp only[qao,qa7,List.nil_append] at hx'⊢;simp[h1,hlt,h3,hf,e,hp,↓qan,↓qaq,↓qap,putAt,mkA,qag,qak,qas,qam,qbM,AFee.dv,qb9,qbf,qcv,qcb,qbA];exact hx' _ _ (by simp)
        |cons x o =>
          simp only[qao,qa7,List.cons_append] at hx'⊢;simp only[zzn] at hl;have h5:(o.length+1+1)*24≤140737488355328:=by omega
          have ht:o.take o.length=o:=List.take_of_length_le (by simp)
          simp[h1,hlt,h3,hf,h5,ht,e,hp,↓qan,↓qaq,↓qap,putAt,mkA,qag,qak,qas,qam,qbM,AFee.dv,qb9,qbf,qcv,qcb,qbA];exact hx' _ _ (by simp)
      · rw[if_neg hp,List.append_nil] at hx'
        cases o with
        |nil =>
          simp only[qao,qa7] at hx'⊢;simp[h1,hlt,h3,hf,e,hp,↓qan,↓qaq,↓qap,putAt,mkA,qag,qak,qas,AFee.dv,qb9,qcv,qcb,qbA];exact hx' _ _ (by simp)
        |cons x o =>
          simp only[qao,qa7] at hx'⊢;simp[h1,hlt,h3,hf,e,hp,↓qan,↓qaq,↓qap,putAt,mkA,qag,qak,qas,AFee.dv,qb9,qcv,qcb,qbA];exact hx' _ _ (by simp)
    · have hf:qaG (fun a=>(g a).2) l=(g l[i]).2:=by
        conv=>lhs;rw[qix l i hlt,qi8 _ _ _ ha,qaG,if_neg hs]
      rw[hf] at hr;have hr':=hr hs
      have gs:=qac hs
      generalize chL g (l.take i)=o at *
      cases o with
      |nil =>
        simp only[qao,qa7] at⊢;simp[h1,hlt,e,gs,bne,↓qan,↓qaq,↓qap,putAt,mkA,qag,qak,qas,AFee.dv,qb9,qcv,qcb,qbA];exact hr' _ _ (by simp[Fr.get]) (by simp[Fr.get]) (by simp[qar,gh])
      |cons x o =>
        simp only[qao,qa7] at⊢;simp[h1,hlt,e,gs,bne,↓qan,↓qaq,↓qap,putAt,mkA,qag,qak,qas,AFee.dv,qb9,qcv,qcb,qbA];exact hr' _ _ (by simp[Fr.get]) (by simp[Fr.get]) (by simp[qar,gh])
  · have:i=l.length:=by omega
    subst this;rw[List.take_length] at ha⊢;have he':=he ((qf1 _ _).2 ha)
    have h1 : ¬((l.length:Int)<l.length):=by omega
    simp;exact he'
theorem qrV {b:ABooks} {id day:Int} {p:AProduct} (hp:qem b id day=some p):p∈b.Products.l:=by
  unfold qem at hp;split at hp
  · exact qs9 hp
  · cases hp
theorem qna {b:ABooks} {id day ev am:Int}:(qfA b id day ev am).1=[]∨∃p∈b.Products.l,(qfA b id day ev am).1=p.Fees.l.filter (qbv ev):=by
  unfold qfA;split
  · exact .inl rfl
  split
  · exact .inl rfl
  split
  · exact .inl rfl
  cases hp:qem b id day with
  |none=>exact .inl rfl
  |some p=>exact .inr ⟨p,qrV hp,rfl⟩
noncomputable def qj5 (T:Tab) (b:ABooks) (id day am:Int) (l:List AFee):List DV×Int :=
  if l=[] then ([],0) else if (qaX b id day am).2=0 then
    (let g:=qgx T (.l (K1 2) ((qaX b id day am).1.map V2) (qaX b id day am).1.isEmpty)
     if qaG (fun f=>(g f).2) l=0 then (chL g l,0) else ([],qaG (fun f=>(g f).2) l))
  else ([],(qaX b id day am).2)
noncomputable def qcx (T:Tab) (b:ABooks) (id day ev am:Int):List DV×Int :=
  if (qfA b id day ev am).2=0 then qj5 T b id day am (qfA b id day ev am).1 else ([],(qfA b id day ev am).2)
theorem qJw (T:Tab) (h:HEv T) (h8:H8 T) (hc:HCl T 956 (K1 4) 56) (b:ABooks) (hb:b.ok) (hf : ∀p∈b.Products.l,p.Fees.l.length≤1000) (id day ev am:Int) :
    T.val 717 [b.dv,I id,I day,I ev,I am]=some (.t [.d (.l (K1 2) (qcx T b id day ev am).1 (qcx T b id day ev am).1.isEmpty),.d (I (qcx T b id day ev am).2)],false):=by
  obtain⟨t0,e800⟩:=qJz T h h8 hc b hb hf id day ev am;have e801:=qJA T h.hU h.hV b id day am hb
  have hfo : ∀f∈(qfA b id day ev am).1,f.ok:=by
    intro f hm;rcases qna (b:=b) (id:=id) (day:=day) (ev:=ev) (am:=am) with e|⟨p,hp,e⟩
    · rw[e] at hm;cases hm
    · rw[e] at hm
      exact (hb.2.2.2.2.1.2 p hp).2.2.2.2.2.2.2.2.2.1.2 f (List.mem_filter.1 hm).1
  have hfl:(qfA b id day ev am).1.length≤1000:=by
    rcases qna (b:=b) (id:=id) (day:=day) (ev:=ev) (am:=am) with e|⟨p,hp,e⟩
    · rw[e];exact Nat.zero_le _
    · rw[e];exact Nat.le_trans (List.length_filter_le _ _) (hf p hp)
  have hg : ∀f∈(qfA b id day ev am).1,T.val 802 [qfH f (.l (K1 2) ((qaX b id day am).1.map V2) (qaX b id day am).1.isEmpty)]=some (two (qgx T (.l (K1 2) ((qaX b id day am).1.map V2) (qaX b id day am).1.isEmpty) f)):=by
    intro f hm;have ho:=hfo f hm
    obtain⟨V,o,q,e1,e2⟩:=qxk T h f.When ho.2.2.1 b id day am (qaX b id day am).1.isEmpty;obtain⟨V',o',q',e3,e4⟩:=qxk T h f.Amount ho.2.2.2 b id day am (qaX b id day am).1.isEmpty;exact qyY (qxX T h8 _ (qwg _ _) q q' (qxY T h8 f V _ _ o q e1 e2) (qxZ T h8 f V' _ _ o' q' e3 e4))
  unfold qcx qj5;generalize qfA b id day ev am=fp at *
  obtain⟨l,e⟩:=fp;simp only at *
  generalize (qaX b id day am).1.map V2=env at *
  generalize (qaX b id day am).1.isEmpty=te at *
  generalize (qaX b id day am).2=ee at *
  rw[qab T (h8 717 F717 rfl) rfl];by_cases h0:e=0
  · rw[if_pos h0]
    by_cases hl:l=[]
    · rw[if_pos hl]
      subst hl;simp[F717,Fr.ofArgs,e800,h0]
    · have l0:l.length≠0:=fun c=>hl (List.length_eq_zero_iff.1 c)
      have l1:((l.length:Int)==0)=false:=qac (by omega)
      have l2 : ¬((l.length:Int)=0):=by omega
      have l3:l.isEmpty=false:=by cases l with|nil=>exact absurd rfl hl|cons a l=>rfl
      rw[if_neg hl];by_cases h1:ee=0
      · rw[if_pos h1]
        have lp:=fun k r fr H => @qCh T l t0 env te _ hg hfl k r fr H
        try simp only at lp⊢
        generalize qgx T (.l (K1 2) env te)=g at *
        simp[F717,Fr.ofArgs,e800,h0,l1,e801,h1];refine lp _ _ _ _ (fun hz => ?_) (fun hz fr J h10 h11 hgh => ?_) (by simp[qao,qa7])
        · rw[if_pos hz]
          cases hcl:chL g l with
          |nil=>simp[qao,qa7]
          |cons x o =>
            have ht:o.take o.length=o:=List.take_of_length_le (by simp)
            simp[qao,qa7,ht,qaL,pur,qbd]
        · rw[if_neg hz]
          simp[h10,h11,hgh]
      · rw[if_neg h1]
        have g1:=qac h1
        simp[F717,Fr.ofArgs,e800,h0,l1,e801,g1,bne]
  · rw[if_neg h0]
    have g0:=qac h0
    simp[F717,Fr.ofArgs,e800,g0,bne]
end Go.Sim
end
end
section
namespace Go.Sim
noncomputable def tabD28:PT :=
 (.bin 1136 F1136 (.bin 1133 qfL .nil .nil) (.bin 1137 F1137 .nil .nil))
def H9 (T:Tab):Prop:=∀n F,tabD28.get n=some F→T.F n=some F
end Go.Sim
end
section
open Go.Sim
attribute [local simp ↓] qd4 qd2 qdU qd3 qdR qdV qdS qdT sqK blK lpK qd9 qd7 qd5 qd8 qd6 qdN qdP qeC qdv qdt qdu qdy qcZ qc0 qcJ qcM qcY qc2 qcL qc3 qcS qcU qcV qcW qc1 qcX qcK qcN qcO qcP qcT qdr qdo qc5 qc4 qdd qc6 qbP qbW qc7 qc8 qeb qcB qea qeA qcE qdj qdk qde qdg qdf qcq qds qcs qda qdn qdi qdh qdc qdb qdm qdp qc9 qdl qdO qcp qcC qdE qeh qcc qdF qct qcu qdq qch qez qcQ qdw qdx qee qeB qec qdW qdX qdY qdZ qd0 qd1 qcR qdD qeF qeS qeT qeQ qeR qeP qeE qeW qeU qe1 qeV qe6 qfh qcr
attribute [local simp] qb3 qef qeg qdI qdJ qdz qdA qex qey qdG qdH rd IOp.adds qaw gh nid rgK rdS qdK qdL qei qej qeo qep qes qen qer qeq qcH qcF qcG qel qek qdC qdB qeu qet qev qew qeJ qeI qeK qbA qeN qeH qeO qe4 qe0 qe3 qe2
section
namespace Go.Sim
attribute [local simp ↓] qbh qbj qbb qbB qbi qbK qa8 qba qbr qbD qbE qbt qbu qa9 qbz qbe qbU qbT qfm qbJ qbG qfv qfu qbg qfi qbQ qfj qfl qfk qbI qbH qfo qfq qft qfs qfr qfn qfp qfw qby qbF
attribute [local simp] qbc qaT writeS touchS qax qaI chg qaZ qaO qaE qaP PV.refs PV.refsL IOp.okD IOp.barr qbo Nat.testBit
attribute [local simp] gc Fr.keep qaf qae qad PV.refs PV.refsL qah gcH qaj Obj.refs PV.ren PV.renL Obj.ren Heap.obj Fr.ren gh zzd
set_option maxRecDepth 10000
set_option maxHeartbeats 4000000
structure HEx (T:Tab):Prop where
 hN:HNx T
 hV:HV T
 hA:HA T
 hR:HR T
 vars : ∃(vs:List AVar) (o o':Bool),T.val 371 []=some (.d (.l (K1 2) (vs.map AVar.dv) false),o)∧T.val 678 []=some (.d (.l (K1 2) (vs.map AVar.dv) false),o')∧vs.length≤1000∧T.val 945 [.l (K1 2) (vs.map AVar.dv) false]=some (.d (I 0),false)∧T.val 1040 [.l (K1 2) (vs.map AVar.dv) false]=some (.d (I 0),false)
theorem HEx.ev {T:Tab} (h:HEx T):HEv T:=by
 obtain⟨hN,hV,hA,hR,vs,o,o',e1,e2,e3,e4,e5⟩:=h;exact⟨hN.hT,hN.hU,hV,hN.hC,hN.hW,hA,vs,false,o,e1,e3,e4⟩
theorem qxj (T:Tab) (h:HEx T) (x:AExpr) (hx:x.ok) (hc:qav x.dv 100≤100) (b:ABooks) (id day amount:Int) (te:Bool) : ∃(V:DV) (o o':Bool) (q:AValue×Int),T.val 371 []=some (.d V,o)∧T.val 678 []=some (.d V,o')∧T.val 916 [x.dv,V,.l (K1 2) ((qaX b id day amount).1.map V2) te]=some (qal q)∧T.val 1031 [x.dv,V,.l (K1 2) ((qaX b id day amount).1.map V2) te]=some (qal q):=by
 obtain⟨hN,hV,hA,hR,vs,o,o',e1,e2,hn,e4,e5⟩:=h;have hm:(qaX b id day amount).1.map V2=((qaX b id day amount).1.map fun p=>(⟨p.1,p.2⟩:AValue)).map AValue.dv:=by rw[List.map_map];rfl
 obtain⟨q,h1,h2⟩:=qH6 T hN hA hR hV vs ((qaX b id day amount).1.map fun p=>(⟨p.1,p.2⟩:AValue)) false te hn (fun e he=>by
  obtain⟨p,hp,rfl⟩:=List.mem_map.1 he;exact qtU b id day amount p hp) e4 e5 x hx hc
 exact⟨_,o,o',q,e1,e2,by rw[hm];exact h1,by rw[hm];exact h2⟩
theorem qBX (T:Tab) (p:AProduct) (ev:Int) (hn:p.Fees.l.length≤1000) {k:KC (PV×Bool)} {r:Option (PV×Bool)} {fr:Fr} {H:Heap}
  (he : ∀q,q=(match (p.Fees.l.filter (qbv ev)).map AFee.dv with|[]=>0|_=>1)→k (.exit 0) [(11,.d (.b false)),(6,.d (I p.Fees.l.length)),(5,qao (K1 10) ((p.Fees.l.filter (qbv ev)).map AFee.dv)),(2,.p q 0 0),(1,.d (I ev))] (qaK (K1 10) [some (.box (K1 19) (.d p.dv))] ((p.Fees.l.filter (qbv ev)).map AFee.dv))=r)
  (h0:gc [1,2,5,6] 0 ⟨fr,H⟩=⟨[(6,.d (I 0)),(5,qao (K1 10) []),(2,.p 0 0 0),(1,.d (I ev))],[some (.box (K1 19) (.d p.dv))]⟩) :
  kC T.env 0 fr H (.h (.loop [1,2,5,6] qiP,k))=r:=by
 refine qbN (fun q:Nat×List AFee=>⟨[(6,.d (I q.1)),(5,qao (K1 10) (q.2.map AFee.dv)),(2,pB 0 (q.2.map AFee.dv)),(1,.d (I ev))],qaK (K1 10) [some (.box (K1 19) (.d p.dv))] (q.2.map AFee.dv)⟩) (fun q=>q.1≤p.Fees.l.length∧q.2=(p.Fees.l.take q.1).filter (qbv ev)) (fun q=>p.Fees.l.length-q.1) ?_ (0,[]) ⟨Nat.zero_le _,rfl⟩ h0
 rintro B-⟨i,o⟩ ⟨hi,ha⟩ hx;simp only at hi ha hx⊢;by_cases hlt:i<p.Fees.l.length
 ·have h1:(i:Int)<p.Fees.l.length:=by omega
  have h3:=wr1 (i:=i) (by omega)
  have hol:o.length≤i:=by rw[ha];exact Nat.le_trans (List.length_filter_le _ _) (by simp;omega)
  have hst:(p.Fees.l.take (i+1)).filter (qbv ev)=if qbv ev p.Fees.l[i]=true then o++[p.Fees.l[i]] else o:=by
   rw[List.take_succ_eq_append_getElem hlt,List.filter_append,←ha,List.filter_cons];split<;>simp
  obtain⟨f,hf⟩ : ∃f,p.Fees.l[i]=f:=⟨_,rfl⟩;rw[hf] at hst;by_cases hv:f.Event=ev
  ·rw[if_pos (show qbv ev f=true by simp[qbv,hv])] at hst
   have hx':=fun hm=>hx (i+1,o++[f]) ⟨by show i+1≤p.Fees.l.length;omega,hst.symm⟩ hm
   simp only[List.map_append,zzu,List.map_nil] at hx';have hx2:=hx' (by omega)
   clear hx' hx
   generalize ho':o.map AFee.dv=od at *
   have hod:od.length≤i:=by rw[←ho',zzo];exact hol
   cases od with
   |nil =>
    simp only[qao,qaK,pB,List.nil_append] at hx2⊢;simp[h1,hlt,h3,hf,hv];exact hx2 _ _ (by simp)
   |cons x od =>
    simp only[qao,qaK,pB,List.cons_append] at hx2⊢;simp only[zzn] at hod;have h5:(od.length+1+1)*136≤140737488355328:=by omega
    have ht:od.take od.length=od:=List.take_of_length_le (by simp)
    simp[h1,hlt,h3,hf,hv,h5,ht];exact hx2 _ _ (by simp)
  ·rw[if_neg (show ¬qbv ev f=true by simp[qbv,hv])] at hst
   have hx2:=hx (i+1,o) ⟨by show i+1≤p.Fees.l.length;omega,hst.symm⟩ (by show p.Fees.l.length-(i+1)<p.Fees.l.length-i;omega)
   clear hx
   have gv:=qac hv
   generalize ho':o.map AFee.dv=od at *
   cases od with
   |nil =>
    simp only[qao,qaK,pB] at hx2⊢;simp[h1,hlt,h3,hf,gv];exact hx2 _ _ (by simp)
   |cons x od =>
    simp only[qao,qaK,pB] at hx2⊢;simp[h1,hlt,h3,hf,gv];exact hx2 _ _ (by simp)
 ·have:i=p.Fees.l.length:=by omega
  subst this;rw[List.take_length] at ha;subst ha;have h1 : ¬((p.Fees.l.length:Int)<p.Fees.l.length):=by omega
  cases ho:(p.Fees.l.filter (qbv ev)).map AFee.dv with
  |nil =>
   have he:=he 0 (by rw[ho])
   rw[ho] at he;simp only[qao,qaK,pB] at he⊢;simp;exact he
  |cons x od =>
   have he:=he 1 (by rw[ho])
   rw[ho] at he;simp only[qao,qaK,pB] at he⊢;simp;exact he
theorem qIK (T:Tab) (h9:H9 T) (p:AProduct) (ev:Int) (hn:p.Fees.l.length≤1000):T.val 1136 [p.dv,I ev]=some (.d (.l (K1 10) ((p.Fees.l.filter (qbv ev)).map AFee.dv) false),true):=by
 have lp:=fun k r fr H => @qBX T p ev hn k r fr H
 rw[qab T (h9 1136 F1136 rfl) rfl];cases hl:(p.Fees.l.filter (qbv ev)).map AFee.dv with
 |nil =>
  rw[hl] at lp;simp[F1136,Fr.ofArgs];refine lp _ _ _ _ (fun q hq => ?_) (by simp[qao])
  simp[qao,qaK]
 |cons x o =>
  rw[hl] at lp;simp[F1136,Fr.ofArgs];refine lp _ _ _ _ (fun q hq => ?_) (by simp[qao])
  have ht:o.take o.length=o:=List.take_of_length_le (by simp)
  simp[qao,qaK,ht]
attribute [local simp ↓ 2000] quW
attribute [local simp] qjZ
theorem qBY (T:Tab) (l:List AFee) (t:Bool) (E V:DV) (o':Bool) (h678:T.val 678 []=some (.d V,o')) (P Q:AFee→AValue×Int) (hP : ∀f∈l,T.val 1031 [f.When.dv,V,E]=some (qal (P f))) (hQ : ∀f∈l,T.val 1031 [f.Amount.dv,V,E]=some (qal (Q f))) (g:AFee→Int×Int) (hg : ∀f∈l,g f=qiX (P f) (Q f)) (hn:l.length≤1000) {k:KC (PV×Bool)} {r:Option (PV×Bool)} {fr:Fr} {H:Heap}
  (he:qaG (fun f=>(g f).2) l=0→k (.exit 0) [(14,.d (.b false)),(7,.d (I l.length)),(6,qao (K1 2) (chL g l)),(1,.d E),(0,.d (.l (K1 10) (l.map AFee.dv) t))] (qa7 (K1 2) (chL g l))=r)
  (hr:qaG (fun f=>(g f).2) l≠0→∀fr J,fr.get 4 = .d (.l (K1 2) [] true)→fr.get 5 = .d (I (qaG (fun f=>(g f).2) l))→qar fr=[]→k .ret fr J=r)
  (h0:gc [0,1,6,7] 0 ⟨fr,H⟩=⟨[(7,.d (I 0)),(6,qao (K1 2) []),(1,.d E),(0,.d (.l (K1 10) (l.map AFee.dv) t))],qa7 (K1 2) []⟩) :
  kC T.env 0 fr H (.h (.loop [0,1,6,7] qgg,k))=r:=by
 refine qbN (fun i:Nat=>⟨[(7,.d (I i)),(6,qao (K1 2) (chL g (l.take i))),(1,.d E),(0,.d (.l (K1 10) (l.map AFee.dv) t))],qa7 (K1 2) (chL g (l.take i))⟩) (fun i=>i≤l.length∧∀v∈l.take i,(g v).2=0) (fun i=>l.length-i) ?_ 0 ⟨Nat.zero_le _,by simp⟩ (by rw[h0];rfl)
 rintro B-i ⟨hi,ha⟩ hx;by_cases hlt:i<l.length
 ·have h1:(i:Int)<l.length:=by omega
  have h3:=wr1 (i:=i) (by omega)
  have eP:=hP l[i] (zzs hlt)
  have eQ:=hQ l[i] (zzs hlt)
  have eg:=hg l[i] (zzs hlt)
  have hl:(chL g (l.take i)).length≤i:=Nat.le_trans (qmS _ _) (by simp;omega)
  have hx':(g l[i]).2=0→_:=fun hs=>hx (i+1) ⟨by omega,by
    rw[List.take_succ_eq_append_getElem hlt];intro v hv;rcases List.mem_append.1 hv with hv|hv
    ·exact ha v hv
    ·rw[List.mem_singleton.1 hv];exact hs⟩ (by omega)
  rw[qtn g l i hlt] at hx';unfold chE at hx';have hr':(g l[i]).2≠0→∀fr J,fr.get 4 = .d (.l (K1 2) [] true)→fr.get 5 = .d (I (g l[i]).2)→qar fr=[]→k .ret fr J=r:=fun hs=>by
   have hf:qaG (fun a=>(g a).2) l=(g l[i]).2:=by
    conv=>lhs;rw[qix l i hlt,qi8 _ _ _ ha,qaG,if_neg hs]
   rw[←hf] at hs⊢;exact hr hs
  clear hr hx he
  obtain⟨f,hf⟩ : ∃f,l[i]=f:=⟨_,rfl⟩;rw[hf] at eP eQ eg hx' hr';unfold qal at eP eQ;unfold qiX at eg;generalize P f=pp at *
  generalize Q f=qq at *
  obtain⟨⟨pt,pn⟩,pe⟩:=pp;obtain⟨⟨qt,qn⟩,qe⟩:=qq;simp only[AValue.dv,AExpr.dv] at eP eQ eg;generalize g f=gf at *
  generalize chL g (l.take i)=o at *
  by_cases h0:pe=0
  ·subst h0;by_cases hw:pt=5∧pn=1
   ·obtain⟨rfl,rfl⟩:=hw;rw[if_pos ⟨rfl,rfl,rfl⟩] at eg;by_cases hq:qe=0
    ·subst hq;rw[if_pos rfl] at eg;subst eg;have hx':=hx' rfl
     simp only at hx';by_cases hp:0<qn
     ·rw[if_pos (by omega),show max 0 qn=qn by omega] at hx'
      cases o with
      |nil =>
       simp only[qao,qa7,List.nil_append] at hx'⊢;simp[h678,h1,hlt,h3,hf,eP,eQ,hp,eqA,eqL,eqK,↓qan,↓qaq,↓qap,putAt,mkA,qak,qam,qbM,AFee.dv,qbf];exact hx' _ _ (by simp)
      |cons x o =>
       simp only[qao,qa7,List.cons_append] at hx'⊢;simp only[zzn] at hl;have h5:(o.length+1+1)*24≤140737488355328:=by omega
       have ht:o.take o.length=o:=List.take_of_length_le (by simp)
       simp[h678,h1,hlt,h3,hf,h5,ht,eP,eQ,hp,eqA,eqL,eqK,↓qan,↓qaq,↓qap,putAt,mkA,qak,qam,qbM,AFee.dv,qbf];exact hx' _ _ (by simp)
     ·rw[if_neg (by omega),List.append_nil] at hx'
      cases o with
      |nil =>
       simp only[qao,qa7] at hx'⊢;simp[h678,h1,hlt,h3,hf,eP,eQ,hp,eqA,eqL,eqK,↓qan,↓qaq,↓qap,putAt,mkA,qak,qam,AFee.dv,qbf];exact hx' _ _ (by simp)
      |cons x o =>
       simp only[qao,qa7] at hx'⊢;simp[h678,h1,hlt,h3,hf,eP,eQ,hp,eqA,eqL,eqK,↓qan,↓qaq,↓qap,putAt,mkA,qak,qam,AFee.dv,qbf];exact hx' _ _ (by simp)
    ·have gq:=qac hq
     rw[if_neg hq] at eg;subst eg;have hr':=hr' hq
     cases o with
     |nil =>
      simp only[qao,qa7];simp[h678,h1,hlt,hf,eP,eQ,gq,bne,eqA,eqL,eqK,↓qan,↓qaq,↓qap,putAt,mkA,qak,qam,AFee.dv,qbf];exact hr' _ _ (by simp[Fr.get]) (by simp[Fr.get]) (by simp[qar,gh])
     |cons x o =>
      simp only[qao,qa7];simp[h678,h1,hlt,hf,eP,eQ,gq,bne,eqA,eqL,eqK,↓qan,↓qaq,↓qap,putAt,mkA,qak,qam,AFee.dv,qbf];exact hr' _ _ (by simp[Fr.get]) (by simp[Fr.get]) (by simp[qar,gh])
   ·rw[if_neg (fun h=>hw h.2)] at eg
    subst eg;have hx':=hx' rfl
    simp only at hx';rw[if_neg (by omega),List.append_nil] at hx'
    have hv:(pt==5&&pn==1)=false:=by
     cases hb:(pt==5&&pn==1) with
     |false=>rfl
     |true=>simp at hb;exact absurd hb hw
    cases o with
    |nil =>
     simp only[qao,qa7] at hx'⊢;simp[h678,h1,hlt,h3,hf,eP,hv,eqA,eqL,eqK,↓qan,↓qaq,↓qap,putAt,mkA,qak,qam,AFee.dv,qbf];exact hx' _ _ (by simp)
    |cons x o =>
     simp only[qao,qa7] at hx'⊢;simp[h678,h1,hlt,h3,hf,eP,hv,eqA,eqL,eqK,↓qan,↓qaq,↓qap,putAt,mkA,qak,qam,AFee.dv,qbf];exact hx' _ _ (by simp)
  ·have g0:=qac h0
   rw[if_neg (fun h=>h0 h.1)] at eg
   subst eg;have hr':=hr' h0
   cases o with
   |nil =>
    simp only[qao,qa7];simp[h678,h1,hlt,hf,eP,g0,bne,AFee.dv,qbf];exact hr' _ _ (by simp[Fr.get]) (by simp[Fr.get]) (by simp[qar,gh])
   |cons x o =>
    simp only[qao,qa7];simp[h678,h1,hlt,hf,eP,g0,bne,AFee.dv,qbf];exact hr' _ _ (by simp[Fr.get]) (by simp[Fr.get]) (by simp[qar,gh])
 ·have:i=l.length:=by omega
  subst this;rw[List.take_length] at ha⊢;have he':=he ((qf1 _ _).2 ha)
  have h1 : ¬((l.length:Int)<l.length):=by omega
  generalize chL g l=o at *
  cases o with
  |nil =>
   simp only[qao,qa7] at he'⊢;simp;exact he'
  |cons x o =>
   simp only[qao,qa7] at he'⊢;simp;exact he'
end Go.Sim
end
section
namespace Go.Sim
set_option maxRecDepth 10000
set_option maxHeartbeats 4000000
theorem qIL (T:Tab) (h9:H9 T) (l:List AFee) (t:Bool) (E V:DV) (o':Bool) (h678:T.val 678 []=some (.d V,o')) (P Q:AFee→AValue×Int) (hP : ∀f∈l,T.val 1031 [f.When.dv,V,E]=some (qal (P f))) (hQ : ∀f∈l,T.val 1031 [f.Amount.dv,V,E]=some (qal (Q f))) (g:AFee→Int×Int) (hg : ∀f∈l,g f=qiX (P f) (Q f)) (hn:l.length≤1000) (L:List DV) (e:Int) (hL:(L,e)=if qaG (fun f=>(g f).2) l=0 then (chL g l,0) else ([],qaG (fun f=>(g f).2) l)) :
  T.val 1137 [.l (K1 10) (l.map AFee.dv) t,E]=some (.t [.d (.l (K1 2) L L.isEmpty),.d (I e)],false):=by
 have lp:=fun k r fr H => @qBY T l t E V o' h678 P Q hP hQ g hg hn k r fr H
 rw[qab T (h9 1137 F1137 rfl) rfl];simp[F1137,Fr.ofArgs];refine lp _ _ _ _ (fun hz => ?_) (fun hz fr J h10 h11 hgh => ?_) (by simp[gc,Fr.keep,qaf,qae,qad,PV.refs,gcH,PV.ren,Obj.ren,Heap.obj,Fr.ren,gh,qao,qa7])
 ·rw[if_pos hz] at hL;injection hL with h1 h2
  subst h1 h2;cases hcl:chL g l with
  |nil=>simp[qao,qa7]
  |cons x o =>
   have ht:o.take o.length=o:=List.take_of_length_le (by simp)
   simp[qao,qa7,ht,qaL,pur,qbd]
 ·rw[if_neg hz] at hL;injection hL with h1 h2
  subst h1 h2;simp[h10,h11,hgh]
theorem quF {b:ABooks} (hg:qf4 b=false):(∀p∈b.Products.l,p.Fees.l.length≤1000∧(∀f∈p.Fees.l,qav f.When.dv 100≤100∧qav f.Amount.dv 100≤100)∧∀f∈p.Rules.l,qav f.Amount.dv 100≤100)∧b.Products.l.length≤1000:=by
 have hg':=hg
 simp only[qf4,Bool.or_eq_false_iff,decide_eq_false_iff_not] at hg';refine⟨fun p hp => ?_,by omega⟩
 have h1:b.Products.l.any qdM=false:=by
  rcases hb:b.Products.l.any qdM with _|_
  ·rfl
  ·exfalso;simp[qf4,hb] at hg
 have h2:qdM p=false:=by
  have:=List.any_eq_false.1 h1 p hp
  simpa using this
 simp only[qdM,Bool.or_eq_false_iff,decide_eq_false_iff_not] at h2;refine⟨by omega,fun f hf => ?_,fun f hf => ?_⟩
 ·have h3:qf3 f=false:=by
   have:=List.any_eq_false.1 h2.1.2 f hf
   simpa using this
  simp only[qf3,grX,Bool.or_eq_false_iff,decide_eq_false_iff_not] at h3;omega
 ·have h3:qgC f=false:=by
   have:=List.any_eq_false.1 h2.2 f hf
   simpa using this
  simp only[qgC,grX,Bool.or_eq_false_iff,decide_eq_false_iff_not] at h3;omega
theorem qyZ {T:Tab} {E:DV} {f:AFee} {p:Int×Int} (h:T.val 802 [qfH f E]=some (two p)):qgx T E f=p:=by
 unfold qgx;rw[h];rfl
theorem qzN (T:Tab) (h:HEx T) (h8:H8 T) (b:ABooks) (id day am:Int) (te:Bool) (l:List AFee) (ho : ∀f∈l,f.ok) (hc : ∀f∈l,qav f.When.dv 100≤100∧qav f.Amount.dv 100≤100) :
  ∃(V:DV) (o':Bool) (P Q:AFee→AValue×Int),T.val 678 []=some (.d V,o')∧(∀f∈l,T.val 1031 [f.When.dv,V,.l (K1 2) ((qaX b id day am).1.map V2) te]=some (qal (P f)))∧(∀f∈l,T.val 1031 [f.Amount.dv,V,.l (K1 2) ((qaX b id day am).1.map V2) te]=some (qal (Q f)))∧∀f∈l,qgx T (.l (K1 2) ((qaX b id day am).1.map V2) te) f=qiX (P f) (Q f):=by
 obtain⟨vs,o,o',e1,e2,-⟩:=h.vars;haveI:Nonempty ((AValue×Int)×(AValue×Int)):=⟨((⟨0,0⟩,0),(⟨0,0⟩,0))⟩
 obtain⟨g,hg⟩:=qf0 (P:=fun (f:AFee) (p:(AValue×Int)×(AValue×Int))=>T.val 1031 [f.When.dv,.l (K1 2) (vs.map AVar.dv) false,.l (K1 2) ((qaX b id day am).1.map V2) te]=some (qal p.1)∧T.val 1031 [f.Amount.dv,.l (K1 2) (vs.map AVar.dv) false,.l (K1 2) ((qaX b id day am).1.map V2) te]=some (qal p.2)∧qgx T (.l (K1 2) ((qaX b id day am).1.map V2) te) f=qiX p.1 p.2) (fun f hm=>by
  obtain⟨V,a,a',q,k1,k2,k3,k4⟩:=qxj T h f.When (ho f hm).2.2.1 (hc f hm).1 b id day am te;obtain⟨V',c,c',q',k5,k6,k7,k8⟩:=qxj T h f.Amount (ho f hm).2.2.2 (hc f hm).2 b id day am te;have hV:V = .l (K1 2) (vs.map AVar.dv) false:=by
   rw[e1] at k1;injection k1 with k1;injection k1 with k1 _;injection k1 with k1;exact k1.symm
  have hV':V' = .l (K1 2) (vs.map AVar.dv) false:=by
   rw[e1] at k5;injection k5 with k5;injection k5 with k5 _;injection k5 with k5;exact k5.symm
  subst hV hV';exact⟨(q,q'),k4,k8,qyZ (qxX T h8 _ (qwg _ _) q q' (qxY T h8 f _ _ _ a q k1 k3) (qxZ T h8 f _ _ _ c q' k5 k7))⟩)
 exact⟨_,o',fun f=>(g f).1,fun f=>(g f).2,e2,fun f hf=>(hg f hf).1,fun f hf=>(hg f hf).2.1,fun f hf=>(hg f hf).2.2⟩
theorem qzy (T:Tab) (b:ABooks) (id day ev am:Int):qcx T b id day ev am=(if (qcl b id).isSome=false then ([],11) else if qbq day=false∨qgw b id day=false then ([],16) else if ev<1∨4<ev∨am<0∨1000000000000<am then ([],1) else match qem b id day with|none=>([],11)|some p=>qj5 T b id day am (p.Fees.l.filter (qbv ev))):=by
 unfold qcx qfA;by_cases c1:(qcl b id).isSome=false
 ·rw[if_pos c1,if_pos c1];rfl
 rw[if_neg c1,if_neg c1];by_cases c2:qbq day=false∨qgw b id day=false
 ·rw[if_pos c2,if_pos c2];rfl
 rw[if_neg c2,if_neg c2];by_cases c3:ev<1∨4<ev∨am<0∨1000000000000<am
 ·rw[if_pos c3,if_pos c3];rfl
 rw[if_neg c3,if_neg c3];cases qem b id day with
 |none=>rfl
 |some p=>rfl
theorem qIH (T:Tab) (h:HEx T) (h8:H8 T) (h9:H9 T) (b:ABooks) (hb:b.ok) (hgr:qf4 b=false) (id day ev am:Int) :
  T.val 1133 [b.dv,I id,I day,I ev,I am]=some (.t [.d (.l (K1 2) (qcx T b id day ev am).1 (qcx T b id day ev am).1.isEmpty),.d (I (qcx T b id day ev am).2)],false):=by
 have e683:=qoc T h.hN.hU b id hb
 have e544:=qob T h.hV day
 have e684:=qxW T h.hV h.hN.hU b id day hb
 have e1023:=qxr T h.hN.hU b id day hb
 have e1030:=qH5 T h.hN.hU h.hV b id day am hb
 have hf:=(quF hgr).1
 have e1136 : ∀p,qem b id day=some p→T.val 1136 [p.dv,I ev]=some (.d (.l (K1 10) ((p.Fees.l.filter (qbv ev)).map AFee.dv) false),true):=fun p h'=>qIK T h9 p ev (hf p (qrV h')).1
 have hdue : ∀p,qem b id day=some p→∀L e,(L,e)=(let g:=qgx T (.l (K1 2) ((qaX b id day am).1.map V2) (qaX b id day am).1.isEmpty);if qaG (fun f=>(g f).2) (p.Fees.l.filter (qbv ev))=0 then (chL g (p.Fees.l.filter (qbv ev)),0) else ([],qaG (fun f=>(g f).2) (p.Fees.l.filter (qbv ev)))) →
   T.val 1137 [.l (K1 10) ((p.Fees.l.filter (qbv ev)).map AFee.dv) false,.l (K1 2) ((qaX b id day am).1.map V2) (qaX b id day am).1.isEmpty]=some (.t [.d (.l (K1 2) L L.isEmpty),.d (I e)],false):=fun p h' L e hL=>by
  have hp:=qrV h'
  have ho:=(hb.2.2.2.2.1.2 p hp).2.2.2.2.2.2.2.2.2.1.2
  obtain⟨V,o',P,Q,q1,q2,q3,q4⟩:=qzN T h h8 b id day am (qaX b id day am).1.isEmpty (p.Fees.l.filter (qbv ev)) (fun f hm=>ho f (List.mem_filter.1 hm).1) (fun f hm=>(hf p hp).2.1 f (List.mem_filter.1 hm).1)
  exact qIL T h9 _ false _ V o' q1 P Q q2 q3 _ q4 (Nat.le_trans (List.length_filter_le _ _) (hf p hp).1) L e hL
 rw[qzy];unfold qj5;rw[qab T (h9 1133 qfL rfl) rfl];generalize (qcl b id).getD .zero=acc at *
 generalize qgw b id day=ac at *
 generalize qbq day=vd at *
 generalize qem b id day=pr at *
 cases hs:(qcl b id).isSome with
 |false =>
  rw[hs] at e683;simp[qfL,Fr.ofArgs,e683]
 |true =>
  rw[hs] at e683;rw[if_neg (by simp)]
  cases vd with
  |false =>
   rw[if_pos (.inl rfl)];simp[qfL,Fr.ofArgs,e683,e544]
  |true =>
   cases ac with
   |false =>
    rw[if_pos (.inr rfl)];simp[qfL,Fr.ofArgs,e683,e544,e684]
   |true =>
    rw[if_neg (by simp)]
    by_cases h1:ev<1
    ·rw[if_pos (.inl h1)];simp[qfL,Fr.ofArgs,e683,e544,e684,h1]
    by_cases h2:4<ev
    ·rw[if_pos (.inr (.inl h2))];simp[qfL,Fr.ofArgs,e683,e544,e684,h1,h2]
    by_cases h3:am<0
    ·rw[if_pos (.inr (.inr (.inl h3)))];simp[qfL,Fr.ofArgs,e683,e544,e684,h1,h2,h3]
    by_cases h4:1000000000000<am
    ·rw[if_pos (.inr (.inr (.inr h4)))];simp[qfL,Fr.ofArgs,e683,e544,e684,h1,h2,h3,h4]
    rw[if_neg (by omega)]
    cases pr with
    |none =>
     simp[qfL,Fr.ofArgs,e683,e544,e684,h1,h2,h3,h4,e1023]
    |some p =>
     have e1136:=e1136 p rfl
     have hdue:=hdue p rfl
     simp only[Option.getD_some,Option.isSome_some] at e1023;simp only;generalize p.Fees.l.filter (qbv ev)=l at *
     by_cases hl:l=[]
     ·subst hl;rw[if_pos rfl];simp[qfL,Fr.ofArgs,e683,e544,e684,h1,h2,h3,h4,e1023,e1136]
     ·have l0:l.length≠0:=fun c=>hl (List.length_eq_zero_iff.1 c)
      have l1:((l.length:Int)==0)=false:=qac (by omega)
      rw[if_neg hl];by_cases h5:(qaX b id day am).2=0
      ·rw[if_pos h5];rw[h5] at e1030;generalize hdd:(let g:=qgx T (.l (K1 2) ((qaX b id day am).1.map V2) (qaX b id day am).1.isEmpty);if qaG (fun f=>(g f).2) l=0 then (chL g l,0) else ([],qaG (fun f=>(g f).2) l))=d at *
       obtain⟨L,e⟩:=d;have e1137:=hdue L e rfl
       generalize (qaX b id day am).1.map V2=env at *
       generalize (qaX b id day am).1.isEmpty=te at *
       simp[qfL,Fr.ofArgs,e683,e544,e684,h1,h2,h3,h4,e1023,e1136,l1,e1030,e1137]
      ·rw[if_neg h5];have g5:=qac h5
       generalize (qaX b id day am).1.map V2=env at *
       generalize (qaX b id day am).1.isEmpty=te at *
       generalize (qaX b id day am).2=ee at *
       simp[qfL,Fr.ofArgs,e683,e544,e684,h1,h2,h3,h4,e1023,e1136,l1,e1030,g5,bne]
end Go.Sim
end
section
namespace Go.Sim
attribute [local simp] gc Fr.keep qaf qae qad PV.refs PV.refsL qah gcH qaj Obj.refs PV.ren PV.renL Obj.ren Heap.obj Fr.ren gh zzd
set_option maxRecDepth 10000
set_option maxHeartbeats 4000000
theorem qtR (T:Tab) (b:ABooks) (hf : ∀p∈b.Products.l,p.Fees.l.length≤1000) (id day ev am:Int):(qcx T b id day ev am).1.length≤1000:=by
 have h1:(qfA b id day ev am).1.length≤1000:=by
  rcases qna (b:=b) (id:=id) (day:=day) (ev:=ev) (am:=am) with e|⟨p,hp,e⟩
  ·rw[e];exact Nat.zero_le _
  ·rw[e];exact Nat.le_trans (List.length_filter_le _ _) (hf p hp)
 unfold qcx;split
 ·unfold qj5;split
  ·exact Nat.zero_le _
  ·split
   ·simp only;split
    ·exact Nat.le_trans (qmS _ _) h1
    ·exact Nat.zero_le _
   ·exact Nat.zero_le _
 ·exact Nat.zero_le _
end Go.Sim
end
section
namespace Go.Sim
set_option maxRecDepth 10000
set_option maxHeartbeats 4000000
end Go.Sim
end
end
section
namespace Go.Sim
noncomputable def tabE28:PT :=
 (.bin 1134 F1134 (.bin 1126 F1126 (.bin 633 F633 .nil .nil) (.bin 1131 qiI .nil .nil)) (.bin 1138 F1138 (.bin 1135 F1135 .nil .nil) .nil))
def H10 (T:Tab):Prop:=∀n F,tabE28.get n=some F→T.F n=some F
end Go.Sim
end
section
open Go.Sim
attribute [local simp ↓] qd4 qd2 qdU qd3 qdR qdV qdS qdT sqK blK lpK qd9 qd7 qd5 qd8 qd6 qdN qdP qeC qdv qdt qdu qdy qcZ qc0 qcJ qcM qcY qc2 qcL qc3 qcS qcU qcV qcW qc1 qcX qcK qcN qcO qcP qcT qdr qdo qc5 qc4 qdd qc6 qbP qbW qc7 qc8 qeb qcB qea qeA qcE qdj qdk qde qdg qdf qcq qds qcs qda qdn qdi qdh qdc qdb qdm qdp qc9 qdl qdO qcp qcC qdE qeh qcc qdF qct qcu qdq qch qez qcQ qdw qdx qee qeB qec qdW qdX qdY qdZ qd0 qd1 qcR qdD qeF qeS qeT qeQ qeR qeP qeE qeW qeU qe1 qeV qe6 qfh qcr
attribute [local simp] qb3 qef qeg qdI qdJ qdz qdA qex qey qdG qdH rd IOp.adds qaw gh nid rgK rdS qdK qdL qei qej qeo qep qes qen qer qeq qcH qcF qcG qel qek qdC qdB qeu qet qev qew qeJ qeI qeK qbA qeN qeH qeO qe4 qe0 qe3 qe2
section
namespace Go.Sim
attribute [local simp] gc Fr.keep qaf qae qad PV.refs PV.refsL qah gcH qaj Obj.refs PV.ren PV.renL Obj.ren Heap.obj Fr.ren gh zzd
set_option maxRecDepth 10000
set_option maxHeartbeats 4000000
def chD (p:List UInt8×Int):DV:=.a [.s p.1,I p.2]
def qfe:List (List UInt8×Int)→Int→Option Int
 | [],n=>some n
 |p::r,n=>if 1000000000000-n<p.2 then none else qfe r (n+p.2)
def zE:DV:=.a [I 0,I 0,I 0,I 0,I 0,I 0,.s [],.s [],.l (K1 3) [] true,.i .u64 0]
theorem qCb (T:Tab) (b:DV) (id day:Int) (key:List UInt8) (l:List (List UInt8×Int)) (t:Bool) (hl:l.length≤1000) (ha : ∀p∈l,0<p.2) {k:KC (PV×Bool)} {r:Option (PV×Bool)} {fr:Fr} {H:Heap}
  (he : ∀n,qfe l 0=some n→0≤n∧n≤1000000000000→k (.exit 0) [(46,.d (.b false)),(45,.d (I l.length)),(44,.d (I l.length)),(43,.d (.l (K1 2) (l.map chD) t)),(18,qao K0 (l.map fun p=>.s p.1)),(17,.d (I n)),(12,pB 0 (l.map fun p=>.s p.1)),(6,pB 1 (l.map fun p=>.s p.1)),(5,.d (.s key)),(2,.d (I day)),(1,.d (I id))] (qaK K0 [some (.box (K1 10) (.d zE)),some (.box (K1 22) (.d b))] (l.map fun p=>.s p.1))=r)
  (hr0:qfe l 0=none→∀fr J,fr.get 12 = .p 0 0 0→fr.get 13 = .d (.b false)→fr.get 14 = .d (I 6)→qar fr=[]→k .ret fr (some (.box (K1 10) (.d zE))::J)=r)
  (hr1:qfe l 0=none→∀fr s J,fr.get 12 = .p 1 0 0→fr.get 13 = .d (.b false)→fr.get 14 = .d (I 6)→qar fr=[]→k .ret fr (s::some (.box (K1 10) (.d zE))::J)=r)
  (h0:gc [1,2,5,6,12,17,18,43,44,45] 0 ⟨fr,H⟩=⟨[(45,.d (I 0)),(44,.d (I l.length)),(43,.d (.l (K1 2) (l.map chD) t)),(18,.d (.l K0 [] true)),(17,.d (I 0)),(12,.p 0 0 0),(6,.p 1 0 0),(5,.d (.s key)),(2,.d (I day)),(1,.d (I id))],[some (.box (K1 10) (.d zE)),some (.box (K1 22) (.d b))]⟩) :
  kC T.env 0 fr H (.h (.loop [1,2,5,6,12,17,18,43,44,45] qiQ,k))=r:=by
 refine qbN (fun q:Nat×Int=>⟨[(45,.d (I q.1)),(44,.d (I l.length)),(43,.d (.l (K1 2) (l.map chD) t)),(18,qao K0 ((l.take q.1).map fun p=>.s p.1)),(17,.d (I q.2)),(12,pB 0 ((l.take q.1).map fun p=>.s p.1)),(6,pB 1 ((l.take q.1).map fun p=>.s p.1)),(5,.d (.s key)),(2,.d (I day)),(1,.d (I id))],qaK K0 [some (.box (K1 10) (.d zE)),some (.box (K1 22) (.d b))] ((l.take q.1).map fun p=>.s p.1)⟩) (fun q=>q.1≤l.length∧0≤q.2∧q.2≤1000000000000∧qfe l 0=qfe (l.drop q.1) q.2) (fun q=>l.length-q.1) ?_ (0,0) ⟨Nat.zero_le _,by decide,by decide,rfl⟩ (by rw[h0];rfl)
 rintro B-⟨i,n⟩ ⟨hi,n0,n1,hs⟩ hx;simp only at hi n0 n1 hs⊢;by_cases hlt:i<l.length
 ·have h1:(i:Int)<l.length:=by omega
  have h3:=wr1 (i:=i) (by omega)
  have hl:((l.take i).map fun p=>DV.s p.1).length≤i:=by simp;omega
  have hp:=ha l[i] (zzs hlt)
  have w1:IntKind.i64.wrap (1000000000000-n)=1000000000000-n:=wrI (by omega) (by omega)
  rw[List.drop_eq_getElem_cons hlt,qfe] at hs;by_cases hc:1000000000000-n<l[i].2
  ·rw[if_pos hc] at hs;have hr0:=hr0 hs
   have hr1:=hr1 hs
   generalize (l.take i).map (fun p=>DV.s p.1)=o at *
   cases o with
   |nil =>
    simp only[qao,qaK,pB];simp[h1,hlt,w1,hc,chD,qbf,↓qan,↓qaq,mkA,qag];exact hr0 _ _ (by simp[Fr.get]) (by simp[Fr.get]) (by simp[Fr.get]) (by simp[qar,gh])
   |cons x o =>
    simp only[qao,qaK,pB];simp[h1,hlt,w1,hc,chD,qbf,↓qan,↓qaq,mkA,qag];exact hr1 _ _ _ (by simp[Fr.get]) (by simp[Fr.get]) (by simp[Fr.get]) (by simp[qar,gh])
  ·rw[if_neg hc] at hs;have w2:IntKind.i64.wrap (n+l[i].2)=n+l[i].2:=wrI (by omega) (by omega)
   have hx':=hx (i+1,n+l[i].2) ⟨by simp only;omega,by simp only;omega,by simp only;omega,hs⟩ (by simp only;omega)
   clear hx hr0 hr1 he
   simp only at hx';have hm:(l.take (i+1)).map (fun p=>DV.s p.1)=(l.take i).map (fun p=>DV.s p.1)++[.s l[i].1]:=by
    rw[List.take_succ_eq_append_getElem hlt,List.map_append,zzu,List.map_nil]
   rw[hm] at hx';generalize (l.take i).map (fun p=>DV.s p.1)=o at *
   cases o with
   |nil =>
    simp only[qao,qaK,pB,List.nil_append] at hx'⊢;simp[h1,hlt,h3,w1,w2,hc,chD,qbf];exact hx' _ _ (by simp)
   |cons x o =>
    simp only[qao,qaK,pB,List.cons_append] at hx'⊢;simp only[zzn] at hl;have h5:(o.length+1+1)*16≤140737488355328:=by omega
    have ht:o.take o.length=o:=List.take_of_length_le (by simp)
    simp[h1,hlt,h3,w1,w2,hc,h5,ht,chD,qbf];exact hx' _ _ (by simp)
 ·have:i=l.length:=by omega
  subst this;rw[List.drop_of_length_le (zzt _),qfe] at hs;have he':=he n hs ⟨n0,n1⟩
  rw[List.take_length];have h1 : ¬((l.length:Int)<l.length):=by omega
  generalize l.map (fun p=>DV.s p.1)=o at *
  cases o with
  |nil =>
   simp only[qao,qaK,pB] at he'⊢;simp;exact he'
  |cons x o =>
   simp only[qao,qaK,pB] at he'⊢;simp;exact he'
theorem qBV (T:Tab) (b:DV) (id day:Int) (key:List UInt8) (l:List (List UInt8×Int)) (t:Bool) (hl:l.length≤1000) (ha : ∀p∈l,0<p.2) {k:KC (PV×Bool)} {r:Option (PV×Bool)} {fr:Fr} {H:Heap}
  (he : ∀n,qfe l 0=some n→0≤n∧n≤1000000000000→k (.exit 0) [(43,.d (.b false)),(18,.d (I l.length)),(17,.d (I n)),(15,.d (.l (K1 2) (l.map chD) t)),(12,.p 0 0 0),(6,.p 1 0 0),(5,.d (.s key)),(2,.d (I day)),(1,.d (I id))] [some (.box (K1 10) (.d zE)),some (.box (K1 22) (.d b))]=r)
  (hr0:qfe l 0=none→∀fr J,fr.get 12 = .p 0 0 0→fr.get 13 = .d (.b false)→fr.get 14 = .d (I 6)→qar fr=[]→k .ret fr (some (.box (K1 10) (.d zE))::J)=r)
  (h0:gc [1,2,5,6,12,15,17,18] 0 ⟨fr,H⟩=⟨[(18,.d (I 0)),(17,.d (I 0)),(15,.d (.l (K1 2) (l.map chD) t)),(12,.p 0 0 0),(6,.p 1 0 0),(5,.d (.s key)),(2,.d (I day)),(1,.d (I id))],[some (.box (K1 10) (.d zE)),some (.box (K1 22) (.d b))]⟩) :
  kC T.env 0 fr H (.h (.loop [1,2,5,6,12,15,17,18] qmt,k))=r:=by
 refine qbN (fun q:Nat×Int=>⟨[(18,.d (I q.1)),(17,.d (I q.2)),(15,.d (.l (K1 2) (l.map chD) t)),(12,.p 0 0 0),(6,.p 1 0 0),(5,.d (.s key)),(2,.d (I day)),(1,.d (I id))],[some (.box (K1 10) (.d zE)),some (.box (K1 22) (.d b))]⟩) (fun q=>q.1≤l.length∧0≤q.2∧q.2≤1000000000000∧qfe l 0=qfe (l.drop q.1) q.2) (fun q=>l.length-q.1) ?_ (0,0) ⟨Nat.zero_le _,by decide,by decide,rfl⟩ (by rw[h0];rfl)
 rintro B-⟨i,n⟩ ⟨hi,n0,n1,hs⟩ hx;simp only at hi n0 n1 hs⊢;by_cases hlt:i<l.length
 ·have h1:(i:Int)<l.length:=by omega
  have h3:=wr1 (i:=i) (by omega)
  have hp:=ha l[i] (zzs hlt)
  have w1:IntKind.i64.wrap (1000000000000-n)=1000000000000-n:=wrI (by omega) (by omega)
  rw[List.drop_eq_getElem_cons hlt,qfe] at hs;by_cases hc:1000000000000-n<l[i].2
  ·rw[if_pos hc] at hs;have hr0:=hr0 hs
   simp[h1,hlt,w1,hc,chD,qbf,↓qan,↓qaq,mkA,qag];exact hr0 _ _ (by simp[Fr.get]) (by simp[Fr.get]) (by simp[Fr.get]) (by simp[qar,gh])
  ·rw[if_neg hc] at hs;have w2:IntKind.i64.wrap (n+l[i].2)=n+l[i].2:=wrI (by omega) (by omega)
   have hx':=hx (i+1,n+l[i].2) ⟨by simp only;omega,by simp only;omega,by simp only;omega,hs⟩ (by simp only;omega)
   clear hx hr0 he
   simp only at hx';simp[h1,hlt,h3,w1,w2,hc,chD,qbf];exact hx' _ _ (by simp)
 ·have:i=l.length:=by omega
  subst this;rw[List.drop_of_length_le (zzt _),qfe] at hs;have he':=he n hs ⟨n0,n1⟩
  have h1 : ¬((l.length:Int)<l.length):=by omega
  simp;exact he'
end Go.Sim
end
section
namespace Go.Sim
attribute [local simp] gc Fr.keep qaf qae qad PV.refs PV.refsL qah gcH qaj Obj.refs PV.ren PV.renL Obj.ren Heap.obj Fr.ren gh zzd
set_option maxRecDepth 10000
set_option maxHeartbeats 4000000
abbrev Chg:=List UInt8×Int
theorem quU (sep x:List UInt8) : ∀r,qgF sep (r++[x])=qgF sep r++(sep++x)
 | []=>by simp[qgF]
 |y::r=>by simp[qgF,quU sep x r]
def jn (l:List Chg):List UInt8:=qhg [32] (l.map (·.1))
theorem qAN (l:List Chg) (p:Chg) (h:l≠[]):jn (l++[p])=jn l++[32]++p.1:=by
 cases l with
 |nil=>exact absurd rfl h
 |cons q r=>simp[jn,qhg,quU]
theorem qAM (p:Chg):jn [p]=p.1:=by simp[jn,qhg,qgF]
theorem quV : ∀l:List Chg,(∀p∈l,p.1.length≤100)→(qgF [32] (l.map (·.1))).length≤101*l.length
 | [],_=>by simp[qgF]
 |p::r,h=>by
  have h1:=h p (zzr ..)
  have h2:=quV r fun q hq=>h q (zzi _ hq)
  simp only[zzu,qgF,zzp,zzn,List.length_nil];omega
theorem qqk (l:List Chg) (h : ∀p∈l,p.1.length≤100):(jn l).length≤101*l.length:=by
 cases l with
 |nil=>simp[jn,qhg]
 |cons p r =>
  have h1:=h p (zzr ..)
  have h2:=quV r fun q hq=>h q (zzi _ hq)
  simp only[jn,zzu,qhg,zzp,zzn];omega
theorem qBZ (T:Tab) (l:List Chg) (t:Bool) (hl:l.length≤1000) (hc : ∀p∈l,p.1.length≤100) {k:KC (PV×Bool)} {r:Option (PV×Bool)} {fr:Fr} {H:Heap}
  (he:k (.exit 0) [(8,.d (.b false)),(4,.d (I l.length)),(3,.d (.s (jn l))),(0,.d (.l (K1 2) (l.map chD) t))] []=r)
  (h0:gc [0,3,4] 0 ⟨fr,H⟩=⟨[(4,.d (I 0)),(3,.d (.s [])),(0,.d (.l (K1 2) (l.map chD) t))],[]⟩) :
  kC T.env 0 fr H (.h (.loop [0,3,4] qmu,k))=r:=by
 refine qbN (fun i:Nat=>⟨[(4,.d (I i)),(3,.d (.s (jn (l.take i)))),(0,.d (.l (K1 2) (l.map chD) t))],[]⟩) (fun i=>i≤l.length) (fun i=>l.length-i) ?_ 0 (Nat.zero_le _) (by rw[h0];rfl)
 rintro B-i hi hx;by_cases hlt:i<l.length
 ·have h1:(i:Int)<l.length:=by omega
  have h3:=wr1 (i:=i) (by omega)
  have hx':=hx (i+1) (by omega) (by omega)
  have hp:=hc l[i] (zzs hlt)
  have hj:=qqk (l.take i) fun p hp=>hc p (List.mem_of_mem_take hp)
  have hj2:(l.take i).length≤1000:=by rw[List.length_take];omega
  rw[List.take_succ_eq_append_getElem hlt] at hx';clear hx he
  by_cases hz:i=0
  ·subst hz;rw[List.take_zero,List.nil_append,qAM] at hx';have g1:l[0].1.length<4611686018427387904:=by omega
   have h4:IntKind.i64.wrap 1=1:=wrI (by decide) (by decide)
   simp[hlt,g1,jn,qhg,chD,qbf];exact hx' _ _ (by simp[h4])
  ·have hz2:l.take i≠[]:=by
    intro c
    have:=congrArg List.length c
    rw[List.length_take,List.length_nil] at this;omega
   rw[qAN _ _ hz2] at hx';generalize jn (l.take i)=s at *
   have g0:(0:Int)<(i:Int):=by omega
   have g0':0<i:=by omega
   have g1:s.length+1<4611686018427387904:=by omega
   have g2:s.length+1+l[i].1.length<4611686018427387904:=by omega
   simp[h1,hlt,h3,g0',g1,g2,chD,qbf];exact hx' _ _ (by simp)
 ·have:i=l.length:=by omega
  subst this;rw[List.take_length];have h1 : ¬((l.length:Int)<l.length):=by omega
  simp;exact he
theorem qIM (T:Tab) (h:H10 T) (l:List Chg) (t:Bool) (hl:l.length≤1000) (hc : ∀p∈l,p.1.length≤100):T.val 1138 [.l (K1 2) (l.map chD) t]=some (.d (.s ((jn l).take 64)),false):=by
 rw[qab T (h 1138 F1138 rfl) rfl];have hj:=qqk l hc
 have hm:min (64:Int) ((jn l).length:Int)=((min 64 (jn l).length:Nat):Int):=by omega
 have g1:(min 64 (jn l).length)≤(jn l).length:=by omega
 have g2:(jn l).take (min 64 (jn l).length)=(jn l).take 64:=by
  rcases Nat.le_total 64 (jn l).length with h|h
  ·rw[Nat.min_eq_left h]
  ·rw[Nat.min_eq_right h,List.take_of_length_le h,List.take_of_length_le (zzt _)]
 simp[F1138,Fr.ofArgs];rw[qBZ T l t hl hc ?_ (by simp)]
 simp[↓qpo,hm,g1,g2]
def qhW (l:List Chg):Int:=l.foldl (fun n p=>IntKind.i64.wrap (n+p.2)) 0
theorem qxg (l:List Chg) (p:Chg):qhW (l++[p])=IntKind.i64.wrap (qhW l+p.2):=by simp[qhW]
theorem qBW (T:Tab) (l:List Chg) (t:Bool) (hl:l.length≤1000) {k:KC (PV×Bool)} {r:Option (PV×Bool)} {fr:Fr} {H:Heap}
  (he:k (.exit 0) [(8,.d (.b false)),(4,.d (I l.length)),(3,.d (I (qhW l))),(0,.d (.l (K1 2) (l.map chD) t))] []=r)
  (h0:gc [0,3,4] 0 ⟨fr,H⟩=⟨[(4,.d (I 0)),(3,.d (I 0)),(0,.d (.l (K1 2) (l.map chD) t))],[]⟩) :
  kC T.env 0 fr H (.h (.loop [0,3,4] qoK,k))=r:=by
 refine qbN (fun i:Nat=>⟨[(4,.d (I i)),(3,.d (I (qhW (l.take i)))),(0,.d (.l (K1 2) (l.map chD) t))],[]⟩) (fun i=>i≤l.length) (fun i=>l.length-i) ?_ 0 (Nat.zero_le _) (by rw[h0];rfl)
 rintro B-i hi hx;by_cases hlt:i<l.length
 ·have h1:(i:Int)<l.length:=by omega
  have h3:=wr1 (i:=i) (by omega)
  have hx':=hx (i+1) (by omega) (by omega)
  rw[List.take_succ_eq_append_getElem hlt,qxg] at hx';simp[h1,hlt,h3,chD,qbf];exact hx' _ _ (by simp)
 ·have:i=l.length:=by omega
  subst this;rw[List.take_length];have h1 : ¬((l.length:Int)<l.length):=by omega
  simp;exact he
theorem qIJ (T:Tab) (h:H10 T) (l:List Chg) (t:Bool) (hl:l.length≤1000):T.val 1135 [.l (K1 2) (l.map chD) t]=some (.d (I (qhW l)),false):=by
 rw[qab T (h 1135 F1135 rfl) rfl];simp[F1135,Fr.ofArgs];rw[qBW T l t hl ?_ (by simp)]
 simp
theorem qBU (T:Tab) (l:List Chg) (t:Bool) (hl:l.length≤1000) {k:KC (PV×Bool)} {r:Option (PV×Bool)} {fr:Fr} {H:Heap}
  (he:k (.exit 0) [(9,.d (.b false)),(8,.d (I l.length)),(7,.d (I l.length)),(6,.d (.l (K1 2) (l.map chD) t)),(3,.d (I (qhW l)))] []=r)
  (h0:gc [3,6,7,8] 0 ⟨fr,H⟩=⟨[(8,.d (I 0)),(7,.d (I l.length)),(6,.d (.l (K1 2) (l.map chD) t)),(3,.d (I 0))],[]⟩) :
  kC T.env 0 fr H (.h (.loop [3,6,7,8] qoJ,k))=r:=by
 refine qbN (fun i:Nat=>⟨[(8,.d (I i)),(7,.d (I l.length)),(6,.d (.l (K1 2) (l.map chD) t)),(3,.d (I (qhW (l.take i))))],[]⟩) (fun i=>i≤l.length) (fun i=>l.length-i) ?_ 0 (Nat.zero_le _) (by rw[h0];rfl)
 rintro B-i hi hx;by_cases hlt:i<l.length
 ·have h1:(i:Int)<l.length:=by omega
  have h3:=wr1 (i:=i) (by omega)
  have hx':=hx (i+1) (by omega) (by omega)
  rw[List.take_succ_eq_append_getElem hlt,qxg] at hx';simp[h1,hlt,h3,chD,qbf];exact hx' _ _ (by simp)
 ·have:i=l.length:=by omega
  subst this;rw[List.take_length];have h1 : ¬((l.length:Int)<l.length):=by omega
  simp;exact he
theorem qIG (T:Tab) (h:H10 T) (l:List Chg) (t:Bool) (hl:l.length≤1000):T.val 1126 [.l (K1 2) (l.map chD) t]=some (.d (I (qhW l)),false):=by
 rw[qab T (h 1126 F1126 rfl) rfl];simp[F1126,Fr.ofArgs];rw[qBU T l t hl ?_ (by simp)]
 simp
end Go.Sim
end
section
namespace Go.Sim
attribute [local simp] gc Fr.keep qaf qae qad PV.refs PV.refsL qah gcH qaj Obj.refs PV.ren PV.renL Obj.ren Heap.obj Fr.ren gh zzd
set_option maxRecDepth 10000
set_option maxHeartbeats 4000000
theorem qz7 {b:ABooks} (hg:qf4 b=false) : ∀p∈b.Products.l,∀f∈p.Fees.l,f.Name.length≤100:=by
 intro p hp f hf;have h1:b.Products.l.any qdM=false:=by
  rcases hb:b.Products.l.any qdM with _|_
  ·rfl
  ·exfalso;simp[qf4,hb] at hg
 have h2:qdM p=false:=by
  have:=List.any_eq_false.1 h1 p hp
  simpa using this
 simp only[qdM,Bool.or_eq_false_iff,decide_eq_false_iff_not] at h2;have h3:qf3 f=false:=by
  have:=List.any_eq_false.1 h2.1.2 f hf
  simpa using this
 simp only[qf3,grX,Bool.or_eq_false_iff,decide_eq_false_iff_not] at h3;omega
theorem qtm (g:AFee→Int×Int) : ∀l:List AFee,(∀f∈l,f.Name.length≤100)→∃L:List Chg,chL g l=L.map chD∧∀p∈L,0<p.2∧p.1.length≤100
 | [],_=>⟨[],rfl,fun _ h=>by cases h⟩
 |f::l,h=>by
  obtain⟨L,e,hL⟩:=qtm g l fun f hf=>h f (zzi _ hf)
  have hn:=h f (zzr ..)
  have e2:chL g (f::l)=chE g f++chL g l:=rfl
  rw[e2,e];unfold chE;split
  ·rename_i hp;refine⟨(f.Name,(g f).1)::L,rfl,fun p hm => ?_⟩
   rcases List.mem_cons.1 hm with rfl|hm
   ·exact⟨hp,hn⟩
   ·exact hL p hm
  ·exact⟨L,rfl,hL⟩
theorem qzz (T:Tab) (b:ABooks) (hg:qf4 b=false) (id day ev am:Int) : ∃L:List Chg,(qcx T b id day ev am).1=L.map chD∧∀p∈L,0<p.2∧p.1.length≤100:=by
 have hn : ∀f∈(qfA b id day ev am).1,f.Name.length≤100:=by
  intro f hm;rcases qna (b:=b) (id:=id) (day:=day) (ev:=ev) (am:=am) with e|⟨p,hp,e⟩
  ·rw[e] at hm;cases hm
  ·rw[e] at hm;exact qz7 hg p hp f (List.mem_filter.1 hm).1
 have nil : ∃L:List Chg,([]:List DV)=L.map chD∧∀p∈L,0<p.2∧p.1.length≤100:=⟨[],rfl,fun _ h=>by cases h⟩
 unfold qcx;split
 ·unfold qj5;split
  ·exact nil
  ·split
   ·simp only;split
    ·exact qtm _ _ hn
    ·exact nil
   ·exact nil
 ·exact nil
def qmY (b:ABooks) (id day:Int):List UInt8:=((qem b id day).getD .zero).Currency
def qpK (b:ABooks) (id day:Int) (key:List UInt8) (l:List Chg) (n:Int):DV :=
 .a [I 0,I day,I day,I 6,I 1,I 0,.s key,.s ((jn l).take 64),.l (K1 3) [.a [I id,I n,.s (qmY b id day)],.a [I b.Plan.FeeEarned,I (-n),.s (qmY b id day)]] false,.i .u64 0]
def qfQ (b:ABooks) (id day:Int) (key:List UInt8) (l:List Chg) (e:Int):DV×Bool×Int :=
 if e≠0∨l=[] then (zE,false,e) else match qfe l 0 with
 |none=>(zE,false,6)
 |some n=>(qpK b id day key l n,true,0)
def qhs (p:DV×Bool×Int):PV:=.t [.d p.1,.d (.b p.2.1),.d (I p.2.2)]
theorem qHT (l:List Chg):qkx (l.map fun p=>DV.s p.1)=some (l.map (·.1)):=by
 induction l with
 |nil=>rfl
 |cons p r ih=>rw[zzu,qkx,ih];rfl
theorem qwi (l:List DV):(PV.d (.a l)).cells=l.map .d:=rfl
theorem qwG {o off len:Nat} {k:Sim.K} {t:Bool}:PV.cells (.r o k off len t)=[.r o k off len t]:=rfl
theorem qvG {R:Type} {a b c d e f g h j:DV} {o off len:Nat} {k:Sim.K} {t:Bool} {q:PV→Option R}:bo (mkP (K1 10) [.d a,.d b,.d c,.d d,.d e,.d f,.d g,.d h,.r o k off len t,.d j]) (.h q)=q (.a [.d a,.d b,.d c,.d d,.d e,.d f,.d g,.d h,.r o k off len t,.d j]):=rfl
theorem qt2 (n:Nat) (l:List PV):fits (some n) (.a l)=(l.length==n):=rfl
theorem qJr (T:Tab) (h:HEv T) (h8:H8 T) (hc:HCl T 956 (K1 4) 56) (h10:H10 T) (hj : ∀ds,T.val 718 ds=qjc ds) (b:ABooks) (hb:b.ok) (_hg:qf4 b=false) (hf : ∀p∈b.Products.l,p.Fees.l.length≤1000) (id day ev am:Int) (key:List UInt8) (l:List Chg) (hl:(qcx T b id day ev am).1=l.map chD) (hp : ∀p∈l,0<p.2∧p.1.length≤100) :
  T.val 633 [b.dv,I id,I day,I ev,I am,.s key]=some (qhs (qfQ b id day key l (qcx T b id day ev am).2),false):=by
 have e1:=qJw T h h8 hc b hb hf id day ev am
 have e2:=qxH T h.hU b id day hb
 have hlen:=qtR T b hf id day ev am
 rw[hl,zzo] at hlen;rw[hl] at e1;generalize (qcx T b id day ev am).2=e at *
 have hjn:=qqk l fun p h=>(hp p h).2
 have e3:T.val 718 [.l K0 (l.map fun p=>.s p.1) false,.s [32]]=some (.d (.s (jn l)),false):=by
  rw[hj];simp only[qjc,qHT];rw[if_pos ⟨by rw[zzo];omega,by unfold jn at hjn;omega⟩]
  rfl
 have hm:min ((jn l).length:Int) 64=((min 64 (jn l).length:Nat):Int):=by omega
 have g1:(min 64 (jn l).length)≤(jn l).length:=by omega
 have g2:(jn l).take (min 64 (jn l).length)=(jn l).take 64:=by
  rcases Nat.le_total 64 (jn l).length with h|h
  ·rw[Nat.min_eq_left h]
  ·rw[Nat.min_eq_right h,List.take_of_length_le h,List.take_of_length_le (zzt _)]
 rw[qab T (h10 633 F633 rfl) rfl];by_cases h0:e=0
 ·subst h0;cases l with
  |nil=>simp[F633,Fr.ofArgs,e1,zE,qfQ,qhs]
  |cons p0 l0 =>
   have hne : ¬(((p0::l0).length:Int)=0):=by rw[zzn];omega
   have he:qfQ b id day key (p0::l0) 0=(match qfe (p0::l0) 0 with|none=>(zE,false,6)|some n=>(qpK b id day key (p0::l0) n,true,0)):=by
    unfold qfQ;rw[if_neg (by simp)]
   have hms:((p0::l0).map fun p=>DV.s p.1)≠[]:=by simp
   rw[he];have hlp:=fun k r fr H => @qCb T b.dv id day key (p0::l0) (p0::l0).isEmpty hlen (fun p h=>(hp p h).1) k r fr H
   generalize p0::l0=l at *
   generalize l.map (fun p=>DV.s p.1)=ms at *
   have hb0:((l.length:Int)==0)=false:=qac hne
   simp[F633,Fr.ofArgs,e1,hb0];refine hlp _ _ _ _ (fun n hs hn => ?_) (fun hs fr J h12 h13 h14 hgh => ?_) (fun hs fr s J h12 h13 h14 hgh => ?_) (by simp[zE])
   ·rw[hs];have w1:IntKind.i64.wrap (-n) = -n:=wrI (by omega) (by omega)
    cases ms with
    |nil=>exact absurd rfl hms
    |cons x o =>
     have ht:o.take o.length=o:=List.take_of_length_le (by simp)
     simp[qao,qaK,pB,ht,e3,e2,w1,qaL,pur,qbd,PV.scal,PV.scal1,DV.scal,DV.scal1,↓qpo,hm,g1,g2,qwi,qwG,qil,qt2,qvG,List.map_nil,List.cons_append,List.nil_append,List.take,List.drop,qie,qih,qig,qan,qaq,qap,qbM,qam,putAt,mkA,qak,List.drop_succ_cons,List.take_succ_cons,List.take_zero];rfl
   ·rw[hs];simp[h12,h13,h14,hgh,qhs];done
   ·rw[hs];simp[h12,h13,h14,hgh,qhs];done
 ·have he:qfQ b id day key l e=(zE,false,e):=by unfold qfQ;rw[if_pos (.inl h0)]
  rw[he];have hb1:(e != 0)=true:=by simpa using h0
  simp[F633,Fr.ofArgs,e1,hb1,zE,qhs]
theorem qII (T:Tab) (h:HEx T) (h8:H8 T) (h9:H9 T) (h10:H10 T) (b:ABooks) (hb:b.ok) (hg:qf4 b=false) (hf : ∀p∈b.Products.l,p.Fees.l.length≤1000) (id day ev am:Int) (key:List UInt8) (l:List Chg) (hl:(qcx T b id day ev am).1=l.map chD) (hp : ∀p∈l,0<p.2∧p.1.length≤100) :
  T.val 1134 [b.dv,I id,I day,I ev,I am,.s key]=some (qhs (qfQ b id day key l (qcx T b id day ev am).2),false):=by
 have e1:=qIH T h h8 h9 b hb hg id day ev am
 have e2:=qxr T h.hN.hU b id day hb
 have hlen:=qtR T b hf id day ev am
 rw[hl,zzo] at hlen;rw[hl] at e1;generalize (qcx T b id day ev am).2=e at *
 have e3:=fun t=>qIM T h10 l t hlen fun p h=>(hp p h).2
 rw[qab T (h10 1134 F1134 rfl) rfl];by_cases h0:e=0
 ·subst h0;cases l with
  |nil=>simp[F1134,Fr.ofArgs,e1,zE,qfQ,qhs]
  |cons p0 l0 =>
   have hne : ¬(((p0::l0).length:Int)=0):=by rw[zzn];omega
   have he:qfQ b id day key (p0::l0) 0=(match qfe (p0::l0) 0 with|none=>(zE,false,6)|some n=>(qpK b id day key (p0::l0) n,true,0)):=by
    unfold qfQ;rw[if_neg (by simp)]
   rw[he];have hlp:=fun k r fr H => @qBV T b.dv id day key (p0::l0) (p0::l0).isEmpty hlen (fun p h=>(hp p h).1) k r fr H
   generalize p0::l0=l at *
   have hb0:((l.length:Int)==0)=false:=qac hne
   simp[F1134,Fr.ofArgs,e1,hb0];refine hlp _ _ _ _ (fun n hs hn => ?_) (fun hs fr J h12 h13 h14 hgh => ?_) (by simp[zE])
   ·rw[hs];have w1:IntKind.i64.wrap (-n) = -n:=wrI (by omega) (by omega)
    simp[e3,e2,w1,qaL,pur,qbd,PV.scal,PV.scal1,DV.scal,DV.scal1,qwG,qil,qt2,List.map_nil,List.cons_append,List.nil_append,List.drop,qie,qih,qig,qan,qaq,qap,qbM,qam,putAt,mkA,qag,qak,List.take_succ_cons,List.take_zero];rfl
   ·rw[hs];simp[h12,h13,h14,hgh,qhs];done
 ·have he:qfQ b id day key l e=(zE,false,e):=by unfold qfQ;rw[if_pos (.inl h0)]
  rw[he];have hb1:(e != 0)=true:=by simpa using h0
  simp[F1134,Fr.ofArgs,e1,hb1,zE,qhs]
end Go.Sim
end
section
namespace Go.Sim
attribute [local simp] gc Fr.keep qaf qae qad PV.refs PV.refsL qah gcH qaj Obj.refs PV.ren PV.renL Obj.ren Heap.obj Fr.ren gh zzd
set_option maxRecDepth 10000
set_option maxHeartbeats 4000000
theorem qzJ (x:ALeg):eqA [1,1,3] (.d (ALeg.dv x)) (.d (ALeg.dv x))=some true:=by
 simp[eqA,eqL,eqK,ALeg.dv]
theorem qB0 (T:Tab) (l:List ALeg) (t:Bool) (hn:l.length≤1000) {k:KC (PV×Bool)} {r:Option (PV×Bool)} {fr:Fr} {H:Heap}
  (he:k (.exit 0) [(14,.d (.b false)),(5,.d (I l.length)),(1,.d (.l (K1 3) (l.map ALeg.dv) t)),(0,.d (.l (K1 3) (l.map ALeg.dv) t))] []=r)
  (h0:gc [0,1,5] 0 ⟨fr,H⟩=⟨[(5,.d (I 0)),(1,.d (.l (K1 3) (l.map ALeg.dv) t)),(0,.d (.l (K1 3) (l.map ALeg.dv) t))],[]⟩) :
  kC T.env 0 fr H (.h (.loop [0,1,5] qoL,k))=r:=by
 refine qbN (fun i:Nat=>⟨[(5,.d (I i)),(1,.d (.l (K1 3) (l.map ALeg.dv) t)),(0,.d (.l (K1 3) (l.map ALeg.dv) t))],[]⟩) (fun i=>i≤l.length) (fun i=>l.length-i) ?_ 0 (Nat.zero_le _) (by rw[h0];rfl)
 rintro B-i hi hx;by_cases hlt:i<l.length
 ·have h1:(i:Int)<l.length:=by omega
  have h3:=wr1 (i:=i) (by omega)
  have hx':=hx (i+1) (by omega) (by omega)
  have e:=qzJ l[i]
  clear hx he
  simp[h1,hlt,h3,e];exact hx' _ _ (by simp)
 ·have:i=l.length:=by omega
  subst this;have h1 : ¬((l.length:Int)<l.length):=by omega
  simp;exact he
theorem qIN (T:Tab) (hF:T.F 14=some F14) (l:List ALeg) (t:Bool) (hn:l.length≤1000):T.val 14 [.l (K1 3) (l.map ALeg.dv) t,.l (K1 3) (l.map ALeg.dv) t]=some (.d (.b true),false):=by
 rw[qab T hF rfl];simp[F14,Fr.ofArgs,bne];refine qB0 T l t hn ?_ (by simp)
 simp
theorem qKf (T:Tab) (hF:T.F 9=some F9) (hG:T.F 14=some F14) (x:AEntry) (hx:x.Legs.l.length≤1000):T.val 9 [x.dv,x.dv]=some (.d (.b true),false):=by
 rw[qab T hF rfl];have e:=qIN T hG x.Legs.l x.Legs.t hx
 simp[F9,Fr.ofArgs,e]
theorem qzA (b:ABooks) (id day:Int) (key:List UInt8) (l:List Chg) (e:Int) : ∃x:AEntry,(qfQ b id day key l e).1=x.dv∧x.Legs.l.length≤1000:=by
 have hz : ∃x:AEntry,zE=x.dv∧x.Legs.l.length≤1000:=⟨⟨0,0,0,0,0,0,[],[],⟨[],true⟩,0⟩,rfl,by decide⟩
 unfold qfQ;split
 ·exact hz
 ·split
  ·exact hz
  ·rename_i n _;exact⟨⟨0,day,day,6,1,0,key,(jn l).take 64,⟨[⟨id,n,qmY b id day⟩,⟨b.Plan.FeeEarned,-n,qmY b id day⟩],false⟩,0⟩,rfl,by simp⟩
theorem qBc (T:Tab) (h:HEx T) (h8:H8 T) (hc:HCl T 956 (K1 4) 56) (h9:H9 T) (h10:H10 T) (hF:T.F 9=some F9) (hG:T.F 14=some F14) (hj : ∀ds,T.val 718 ds=qjc ds) (hl:T.val 1123 []=some (.d (.b true),false)) (b:ABooks) (hb:b.ok) (i d ev am:Int) (L:List Chg) (t:Bool) :
  T.val 1131 [b.dv,.a [I i,I d,I ev,I am],.l (K1 2) (L.map chD) t]=some (.d (.b true),false):=by
 have e0:=qIC T h.hN.hU b hb
 rw[qab T (h10 1131 qiI rfl) rfl];by_cases hg:qf4 b=true
 ·rw[hg] at e0;simp[qiI,Fr.ofArgs,e0,hl]
 have hg':qf4 b=false:=by simpa using hg
 rw[hg'] at e0;by_cases h1:100<L.length
 ·have h2:(100:Int)<(L.length:Int):=by omega
  simp[qiI,Fr.ofArgs,e0,hl,h2]
 have h2 : ¬((100:Int)<(L.length:Int)):=by omega
 have hf:=fun p hp=>((quF hg').1 p hp).1
 obtain⟨M,hM,hp⟩:=qzz T b hg' i d ev am;have e1:=qJr T h.ev h8 hc h10 hj b hb hg' hf i d ev am [107] M hM hp
 have e2:=qII T h h8 h9 h10 b hb hg' hf i d ev am [107] M hM hp
 obtain⟨x,hx,hx2⟩:=qzA b i d [107] M (qcx T b i d ev am).2;have e3:=qKf T hF hG x hx2
 have e4:=qIG T h10 L t (by omega)
 have e5:=qIJ T h10 L t (by omega)
 generalize qfQ b i d [107] M (qcx T b i d ev am).2=r at *
 obtain⟨r1,r2,r3⟩:=r;simp only at hx;subst hx;simp only[qhs] at e1 e2;simp[qiI,Fr.ofArgs,e0,h2,e1,e2,e3,e4,e5,hl,qbf]
theorem qBd (T:Tab) (h:HEx T) (h8:H8 T) (hc:HCl T 956 (K1 4) 56) (h9:H9 T) (h10:H10 T) (hF:T.F 9=some F9) (hG:T.F 14=some F14) (hj : ∀ds,T.val 718 ds=qjc ds) (hl:T.val 1123 []=some (.d (.b true),false)) (b:ABooks) (hb:b.ok) (i d ev am:Int) (L:List ACharge) (t:Bool) :
  T.val 1131 [b.dv,.a [I i,I d,I ev,I am],.l (K1 2) (L.map ACharge.dv) t]=some (.d (.b true),false):=by
 have e:=qBc T h h8 hc h9 h10 hF hG hj hl b hb i d ev am (L.map fun c=>(c.Name,c.Amount)) t
 rw[List.map_map] at e;exact e
end Go.Sim
end
end
