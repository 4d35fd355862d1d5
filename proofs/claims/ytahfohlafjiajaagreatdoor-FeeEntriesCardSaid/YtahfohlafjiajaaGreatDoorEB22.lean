/- Part 22 of the proof: CbX2, CbH1, CbU25, CbH2, CbH3, CbH4, CbH5, CbH6, CbX3, CbV25E, CbJ1, CbJ2, CbH7, CbH8, CbJ3, CbH9, CbHa, CbBq, CbXe, CbHb, CbHc, CbHd, CbJ4, CbHe, CbHf, CbHg, CbJ5, CbJ6, CbJ7, CbJ8, CbR8, CbR9, CbRa, CbRb, CbRc, CbC51P, CbV25S, CbRd, CbRe, CbRf, CbRg, CbRh, CbRi, CbRj, CbRk, CbX4, CbX4b. -/
import Derived.Test.YtahfohlafjiajaaGreatDoorEB21
import Derived.Test.YtahfohlafjiajaaGreatDoorEB6
import Derived.Test.YtahfohlafjiajaaGreatDoorEB2
import Derived.Test.YtahfohlafjiajaaGreatDoorEB8
import Derived.Test.YtahfohlafjiajaaGreatDoorEB9
import Derived.Test.YtahfohlafjiajaaGreatDoorEB7
import Derived.Test.YtahfohlafjiajaaGreatDoorEB11
section
open Go.Sim
attribute [local simp ↓] qd4 qd2 qdU qd3 qdR qdV qdS qdT sqK blK lpK qd9 qd7 qd5 qd8 qd6 qdN qdP qeC qdv qdt qdu qdy qcZ qc0 qcJ qcM qcY qc2 qcL qc3 qcS qcU qcV qcW qc1 qcX qcK qcN qcO qcP qcT qdr qdo qc5 qc4 qdd qc6 qbP qbW qc7 qc8 qeb qcB qea qeA qcE qdj qdk qde qdg qdf qcq qds qcs qda qdn qdi qdh qdc qdb qdm qdp qc9 qdl qdO qcp qcC qdE qeh qcc qdF qct qcu qdq qch qez qcQ qdw qdx qee qeB qec qdW qdX qdY qdZ qd0 qd1 qcR qdD qeF qeS qeT qeQ qeR qeP qeE qeW qeU qe1 qeV qe6 qfh qcr
attribute [local simp] qb3 qef qeg qdI qdJ qdz qdA qex qey qdG qdH rd IOp.adds qaw gh nid rgK rdS qdK qdL qei qej qeo qep qes qen qer qeq qcH qcF qcG qel qek qdC qdB qeu qet qev qew qeJ qeI qeK qbA qeN qeH qeO qe4 qe0 qe3 qe2
section
namespace Go.Sim
attribute [local simp ↓] qbh qbj qbb qbB qbi qbK qa8 qba qbr qbD qbE qbt qbu qa9 qbz qbe qbU qbT qfm qbJ qbG qfv qfu qbg qfi qbQ qfj qfl qfk qbI qbH qfo qfq qft qfs qfr qfn qfp qfw qby qbF
attribute [local simp] qbc qaT writeS touchS qax qaI chg qaZ qaO qaE qaP PV.refs PV.refsL IOp.okD IOp.barr qbo Nat.testBit
attribute [local simp] gc Fr.keep qaf qae qad PV.refs PV.refsL qah gcH qaj Obj.refs PV.ren PV.renL Obj.ren Heap.obj Fr.ren gh zzd
set_option maxRecDepth 10000
set_option maxHeartbeats 4000000
def qbL (t:Int):Bool:=decide (1≤t)&&decide (t≤5)
theorem qxQ (T:Tab) (hT:HT T) (t:Int):T.val 416 [I t]=some (.d (.b (qbL t)),false):=by
 rw[qab T (hT 416 qjC rfl) rfl];unfold qbL;by_cases h:1≤t
 ·simp[qjC,Fr.ofArgs,h]
 ·simp[qjC,Fr.ofArgs,h]
def qb8 (op a:Int):Int×Bool:=if op=16 then (5,decide (a=5)) else if op=9 then (a,decide (a=1)||(decide (a=2)||decide (a=3))) else (0,false)
def qaD (p:Int×Bool):PV×Bool:=(.t [.d (I p.1),.d (.b p.2)],false)
theorem qI1 (T:Tab) (hT:HT T) (op a:Int):T.val 417 [I op,I a]=some (qaD (qb8 op a)):=by
 rw[qab T (hT 417 qgP rfl) rfl];unfold qb8;by_cases h:op=16
 ·by_cases c:a=5
  ·simp[qgP,Fr.ofArgs,h,c,qaD]
  ·have g:=qac c
   simp[qgP,Fr.ofArgs,h,c,g,qaD]
 ·have g:=qac h
  by_cases h2:op=9
  ·by_cases c1:a=1
   ·simp[qgP,Fr.ofArgs,h2,c1,qaD]
   ·have g1:=qac c1
    by_cases c2:a=2
    ·simp[qgP,Fr.ofArgs,h2,c2,qaD]
    ·have g2:=qac c2
     by_cases c3:a=3
     ·simp[qgP,Fr.ofArgs,h2,c3,qaD]
     ·have g3:=qac c3
      simp[qgP,Fr.ofArgs,h2,c1,g1,c2,g2,c3,g3,qaD]
  ·have g2:=qac h2
   simp[qgP,Fr.ofArgs,h,g,h2,g2,qaD]
def arL:List ((Int×Int×Int)×Int):=[((5,4,1),4),((6,4,1),4),((6,4,4),1),((7,1,1),1),((7,2,3),2),((7,3,2),2),((8,1,1),1),((8,2,2),1),((7,1,2),2),((7,2,1),2),((8,2,1),2),((7,1,3),3),((7,3,1),3),((8,3,1),3),((5,1,1),1),((6,1,1),1),((5,2,2),2),((6,2,2),2),((5,3,3),3),((6,3,3),3)]
def arE (x:(Int×Int×Int)×Int):DV×DV:=(.a [I x.1.1,I x.1.2.1,I x.1.2.2],I x.2)
def arF:List ((Int×Int×Int)×Int)→Int→Int→Int→Option Int
 | [],_,_,_=>none
 |x::r,op,a,b=>if op=x.1.1∧a=x.1.2.1∧b=x.1.2.2 then some x.2 else arF r op a b
def arV (op a b:Int):Int:=(arF arL op a b).getD 0
theorem qut (op a b:Int) : ∀l,qeL (.a [I op,I a,I b]) (l.map arE)=some ((arF l op a b).map fun n=>I n)
 | []=>rfl
 |x::r=>by
  have e:qb6 (.a [I op,I a,I b]) (.a [I x.1.1,I x.1.2.1,I x.1.2.2])=some (decide (op=x.1.1∧a=x.1.2.1∧b=x.1.2.2)):=by
   simp only[qb6,qgm,qfR,if_true,Bool.and_true];congr 1
   by_cases h1:op=x.1.1<;>by_cases h2:a=x.1.2.1<;>by_cases h3:b=x.1.2.2<;>simp[h1,h2,h3]
  simp only[zzu,arE,qeL,e,arF];by_cases h:op=x.1.1∧a=x.1.2.1∧b=x.1.2.2
  ·simp only[h];simp
  ·simp only[h,decide_false,if_false];exact qut op a b r
def HA (T:Tab):Prop:=T.ref 421 [] []=some (.h 0,[some (.mp (arL.map arE))])
section
variable {R : Type} {E : Env} {ρ : Rand → PV} {H : Heap} {id : Nat} {q : PV → Heap → Option R}
def qnD (ky:Ky) (z:DV) (H:Heap) (x i:PV) {q:PV→Option R} (_:Hd q):Option R:=match i,x with
 | .d k,.h o=>if qgn ky k then match H.obj o with
  |some (.mp es)=>match qeL k es with
   |some r=>q (.d (r.getD z))
   |none=>none
  | _=>none
  else none
 | _,_=>none
theorem qtb {ky:Ky} {z:DV} {x i:Rand}:bo2 (qaa E ρ H id (.mget ky z false x i)) (.h q)=qnD ky z H (ρ x) (ρ i) (.h fun v=>q v H):=by
 simp only[qaa,qnD];cases ρ i with
 |d k =>
  cases ρ x with
  |h o =>
   simp only;by_cases hk:qgn ky k=true
   ·simp only[hk,if_true];cases H.obj o with
    |none=>rfl
    |some b =>
     cases b with
     |mp es =>
      dsimp only
      cases qeL k es<;>rfl
     | _=>rfl
   ·simp only[hk,if_false,zzg];rfl
  | _=>rfl
 | _=>cases ρ x<;>rfl
theorem qCJ {op a b:Int} {q:PV→Option R}:qnD (.st [1,1,1]) (I 0) [some (.mp (arL.map arE))] (.h 0) (.d (.a [I op,I a,I b])) (.h q)=q (.d (I (arV op a b))):=by
 have e:=qut op a b arL
 simp only[qnD,qgn,qio,qkh,Bool.and_true,if_true,Heap.obj,List.getElem?_cons_zero,e];unfold arV;cases arF arL op a b<;>rfl
end
def qbl (op a b:Int):Int×Bool :=
 if op=10∨op=11 then (5,decide (a=b)) else if op=12∨op=13 then (5,decide (a=b) && !decide (a=5))
 else if op=14∨op=15 then (5,decide (a=b)&&decide (a=5)) else if op=17∨op=18 then (a,decide (a=b) && !decide (a=5))
 else (arV op a b,!decide (arV op a b=0))
theorem qI2 (T:Tab) (hT:HT T) (hA:HA T) (op a b:Int):T.val 418 [I op,I a,I b]=some (qaD (qbl op a b)):=by
 have hA':T.ref 421 [] []=some (.h 0,[some (.mp (arL.map arE))]):=hA
 rw[qab T (hT 418 qe7 rfl) rfl];unfold qbl;by_cases h1:op=10∨op=11
 ·rw[if_pos h1];by_cases c:a=b
  ·rcases h1 with h1|h1<;>subst h1<;>simp[qe7,Fr.ofArgs,c,qaD]
  ·have g:=qac c
   rcases h1 with h1|h1<;>subst h1<;>simp[qe7,Fr.ofArgs,c,g,qaD]
 rw[if_neg h1];by_cases h2:op=12∨op=13
 ·rw[if_pos h2];by_cases c:a=b
  ·by_cases d:a=5
   ·subst d;subst c
    rcases h2 with h1|h1<;>subst h1<;>simp[qe7,Fr.ofArgs,qaD]
   ·have g:=qac d
    subst c;rcases h2 with h1|h1<;>subst h1<;>simp[qe7,Fr.ofArgs,d,g,bne,qaD]
  ·have g:=qac c
   rcases h2 with h1|h1<;>subst h1<;>simp[qe7,Fr.ofArgs,c,g,qaD]
 rw[if_neg h2];by_cases h3:op=14∨op=15
 ·rw[if_pos h3];by_cases c:a=b
  ·by_cases d:a=5
   ·subst d;subst c
    rcases h3 with h1|h1<;>subst h1<;>simp[qe7,Fr.ofArgs,qaD]
   ·have g:=qac d
    subst c;rcases h3 with h1|h1<;>subst h1<;>simp[qe7,Fr.ofArgs,d,g,qaD]
  ·have g:=qac c
   rcases h3 with h1|h1<;>subst h1<;>simp[qe7,Fr.ofArgs,c,g,qaD]
 rw[if_neg h3];by_cases h4:op=17∨op=18
 ·rw[if_pos h4];by_cases c:a=b
  ·by_cases d:a=5
   ·subst d;subst c
    rcases h4 with h1|h1<;>subst h1<;>simp[qe7,Fr.ofArgs,qaD]
   ·have g:=qac d
    subst c;rcases h4 with h1|h1<;>subst h1<;>simp[qe7,Fr.ofArgs,d,g,bne,qaD]
  ·have g:=qac c
   rcases h4 with h1|h1<;>subst h1<;>simp[qe7,Fr.ofArgs,c,g,qaD]
 rw[if_neg h4];have n10:=qac (show ¬op=10 from fun h=>h1 (.inl h))
 have n11:=qac (show ¬op=11 from fun h=>h1 (.inr h))
 have n12:=qac (show ¬op=12 from fun h=>h2 (.inl h))
 have n13:=qac (show ¬op=13 from fun h=>h2 (.inr h))
 have n14:=qac (show ¬op=14 from fun h=>h3 (.inl h))
 have n15:=qac (show ¬op=15 from fun h=>h3 (.inr h))
 have n17:=qac (show ¬op=17 from fun h=>h4 (.inl h))
 have n18:=qac (show ¬op=18 from fun h=>h4 (.inr h))
 have mg:=fun d => @qCJ (PV×Bool) op a b d
 generalize arL.map arE=es at *
 generalize arV op a b=v at *
 by_cases c:v=0
 ·subst c;simp[qe7,Fr.ofArgs,n10,n11,n12,n13,n14,n15,n17,n18,hA',↓qtb,↓mg,↓qan,↓qaq,↓qap,putAt,mkA,qak,qam,qaD]
 ·have g:=qac c
  simp[qe7,Fr.ofArgs,n10,n11,n12,n13,n14,n15,n17,n18,hA',↓qtb,↓mg,↓qan,↓qaq,↓qap,putAt,mkA,qak,qam,c,g,bne,qaD]
theorem qBs (T:Tab) (hT:HT T) (op:Int) (z:List Int) (t:Bool) (hn:z.length≤maxLen) {k:KC (PV×Bool)} {r:Option (PV×Bool)} {fr:Fr} {H:Heap} (hr : ∀fr H,fr.get 4 = .d (I 0)→fr.get 5 = .d (.b false)→qar fr=[]→k .ret fr H=r)
  (h0:gc [0,1,10,11,12] 0 ⟨fr,H⟩=⟨[(12,.d (I 0)),(11,.d (I z.length)),(10,.d (.l K0 (z.map fun n=>I n) t)),(1,.d (.l K0 (z.map fun n=>I n) t)),(0,.d (I op))],[]⟩) :
  kC T.env 0 fr H (.h (.loop [0,1,10,11,12] qmw,k))=if z.all qbL=true then k (.exit 0) ((13,.d (.b false))::[(12,.d (I z.length)),(11,.d (I z.length)),(10,.d (.l K0 (z.map fun n=>I n) t)),(1,.d (.l K0 (z.map fun n=>I n) t)),(0,.d (I op))]) [] else r:=by
 rw[qbY z (fun i _=>⟨[(12,.d (I i)),(11,.d (I z.length)),(10,.d (.l K0 (z.map fun n=>I n) t)),(1,.d (.l K0 (z.map fun n=>I n) t)),(0,.d (I op))],[]⟩) (fun _ _=>True) (fun i _ p c=>if qbL p=true then c () else r) (fun _=>k (.exit 0) ((13,.d (.b false))::[(12,.d (I z.length)),(11,.d (I z.length)),(10,.d (.l K0 (z.map fun n=>I n) t)),(1,.d (.l K0 (z.map fun n=>I n) t)),(0,.d (I op))]) []) ?_ ?_ h0 trivial]
 ·rw[ql7 qbL r];exact fun _ _ _ _=>rfl
 ·intro B _ _ _;simp
 ·intro B _ i _ hi _ c hc;have hm:=mxl
  have h1:(i:Int)<z.length:=by omega
  have h3:=wr1 (i:=i) (by omega)
  have e:=qxQ T hT z[i]
  cases hk:qbL z[i] with
  |true =>
   rw[hk] at e;simp[h1,hi,e,h3];exact hc () _ _ trivial (by simp)
  |false =>
   rw[hk] at e;simp[h1,hi,e];exact hr _ _ (by simp[Fr.get]) (by simp[Fr.get]) (by simp[qar,gh])
def qaV (op:Int) (ts:List Int):Int×Bool :=
 if ts.all qbL=true then
  match ts with
  | [a]=>if (qb8 op a).2=true then ((qb8 op a).1,true) else (0,false)
  | [a,b]=>if (qbl op a b).2=true then ((qbl op a b).1,true) else (0,false)
  | [a,b,c]=>if op=19∧a=5∧b=c then (b,true) else (0,false)
  | _=>(0,false)
 else (0,false)
theorem qn9 (T:Tab) (hT:HT T) (hA:HA T) (op:Int) (ts:List Int) (t:Bool) (hn:ts.length≤maxLen):T.val 411 [I op,.l K0 (ts.map fun n=>I n) t]=some (qaD (qaV op ts)):=by
 rw[qab T (hT 411 F411 rfl) rfl];have lp:=fun k fr H => @qBs T hT op ts t hn k (some (qaD (0,false))) fr H
 obtain⟨r,hr⟩ : ∃r,some (qaD (qaV op ts))=r:=⟨_,rfl⟩;rw[hr];unfold qaV at hr;simp[F411,Fr.ofArgs];rw[lp]
 ·by_cases ha:ts.all qbL=true
  ·rw[if_pos ha];rw[if_pos ha] at hr;rw[←hr];clear hr lp ha
   simp only[blK,sqK];have hm:=mxl
   match ts,hn with
   | [],_ =>
    show _=some (qaD (0,false))
    simp[qaD]
   | [a],_ =>
    show _=some (qaD (if (qb8 op a).2=true then ((qb8 op a).1,true) else (0,false)))
    have e:=qI1 T hT op a
    unfold qaD at *
    generalize qb8 op a=p at *
    obtain⟨p1,p2⟩:=p;cases p2 with
    |true=>simp[e]
    |false=>simp[e]
   | [a,b],_ =>
    show _=some (qaD (if (qbl op a b).2=true then ((qbl op a b).1,true) else (0,false)))
    have e:=qI2 T hT hA op a b
    unfold qaD at *
    generalize qbl op a b=p at *
    obtain⟨p1,p2⟩:=p;cases p2 with
    |true=>simp[e]
    |false=>simp[e]
   | [a,b,c],_ =>
    show _=some (qaD (if op=19∧a=5∧b=c then (b,true) else (0,false)))
    by_cases h1:op=19
    ·by_cases h2:a=5
     ·by_cases h3:b=c
      ·simp[h1,h2,h3,qaD]
      ·have g3:=qac h3
       simp[h1,h2,h3,g3,qaD]
     ·have g2:=qac h2
      simp[h1,h2,g2,qaD]
    ·have g1:=qac h1
     simp[h1,g1,qaD]
   |a::b::c::d::l,hn =>
    show _=some (qaD (0,false))
    have g1:((l.length:Int)+1+1+1+1==1)=false:=qac (by omega)
    have g2:((l.length:Int)+1+1+1+1==2)=false:=qac (by omega)
    have g3:((l.length:Int)+1+1+1+1==3)=false:=qac (by omega)
    have f1 : ¬((l.length:Int)+1+1+1+1=1):=by omega
    have f2 : ¬((l.length:Int)+1+1+1+1=2):=by omega
    have f3 : ¬((l.length:Int)+1+1+1+1=3):=by omega
    simp[g1,g2,g3,qaD]
  ·rw[if_neg ha];rw[if_neg ha] at hr;exact hr
 ·intro fr H h1 h2 h3;simp[h1,h2,h3,qaD]
 ·simp
end Go.Sim
end
end
section
open Go.Sim
attribute [local simp ↓] qd4 qd2 qdU qd3 qdR qdV qdS qdT sqK blK lpK qd9 qd7 qd5 qd8 qd6 qdN qdP qeC qdv qdt qdu qdy qcZ qc0 qcJ qcM qcY qc2 qcL qc3 qcS qcU qcV qcW qc1 qcX qcK qcN qcO qcP qcT qdr qdo qc5 qc4 qdd qc6 qbP qbW qc7 qc8 qeb qcB qea qeA qcE qdj qdk qde qdg qdf qcq qds qcs qda qdn qdi qdh qdc qdb qdm qdp qc9 qdl qdO qcp qcC qdE qeh qcc qdF qct qcu qdq qch qez qcQ qdw qdx qee qeB qec qdW qdX qdY qdZ qd0 qd1 qcR qdD
attribute [local simp] qb3 qef qeg qdI qdJ qdz qdA qex qey qdG qdH rd IOp.adds qaw gh nid rgK rdS qdK qdL qei qej qeo qep qes qen qer qeq qcH qcF qcG qel qek qdC qdB qeu qet qev qew
section
namespace Go.Sim
set_option maxRecDepth 10000
set_option maxHeartbeats 2000000
def qke {α:Type} (p:α→Bool) (l:List α):Int:=match l.findIdx? p with|some j=>(j:Int)|none=>-1
theorem qse {α R:Type} (p:α→Bool) (r:Nat→Option R) (done:Unit→Option R) (step:Nat→Unit→α→(Unit→Option R)→Option R) (hs : ∀i b x c,step i b x c=if p x=true then r i else c ()) : ∀(i:Nat) (ls:List α),qe5 step done i () ls=match ls.findIdx? p with|some j=>r (i+j)|none=>done ()
 |i,[]=>by simp[qe5]
 |i,x::l=>by
  rw[qe5,hs,qse p r done step hs (i+1) l,List.findIdx?_cons];cases h:p x with
  |true=>simp
  |false =>
   simp only[zzg,if_false];cases l.findIdx? p with
   |none=>simp
   |some j=>simp;congr 1;omega
section
variable {α : Type}
theorem qBu (T:Tab) (g:Nat) (q:K) (dv:α→DV) (p:α→Bool) (c:PV) (cs:List PV) (H0:Heap) (hH:Cl H0) (hc : ∀r∈PV.refsL (c::cs),r<H0.length) (l:List α) (hv : ∀x∈l,T.ref g (.d (dv x)::c::cs) H0=some (.d (.b (p x)),H0)) (s:Bool) (hn:l.length≤maxLen) {k:KC (PV×Heap)} {r:Nat→Option (PV×Heap)} {fr:Fr} {H:Heap}
  (hr : ∀(j:Nat) fr J,fr.get 4 = .d (I j)→qar fr=[]→k .ret fr (H0++J)=r j)
  (h0:gc [0,1,7,8] H0.length ⟨fr,H⟩=⟨[(8,.d (I 0)),(7,.d (I l.length)),(1,.f g (c::cs)),(0,.d (.l q (l.map dv) s))],H0⟩) :
  kC T.env H0.length fr H (.h (.loop [0,1,7,8] (qmI q),k))=match l.findIdx? p with|some j=>r j|none=>k (.exit 0) [(9,.d (.b false)),(8,.d (I l.length)),(7,.d (I l.length)),(1,.f g (c::cs)),(0,.d (.l q (l.map dv) s))] H0:=by
 rw[qbY l (fun i _=>⟨[(8,.d (I i)),(7,.d (I l.length)),(1,.f g (c::cs)),(0,.d (.l q (l.map dv) s))],H0⟩) (fun _ _=>True) (fun i _ x c=>if p x=true then r i else c ()) (fun _=>k (.exit 0) [(9,.d (.b false)),(8,.d (I l.length)),(7,.d (I l.length)),(1,.f g (c::cs)),(0,.d (.l q (l.map dv) s))] H0) ?_ ?_ h0 trivial]
 ·rw[qse p r _ _ (fun _ _ _ _=>rfl)]
  simp only[Nat.zero_add]
 ·intro B _ _ _;simp[qmI]
 ·intro B _ i _ hi _ cc hcc;have hm:=mxl
  have h1:(i:Int)<l.length:=by omega
  have h3:=wr1 (i:=i) (by omega)
  have he:=hv l[i] (zzs hi)
  simp[qmI,h1,hi,he];repeat' (refine qaM (fun h => ?_) (fun h => ?_)<;>(try simp at h)<;>(try simp[h,h3]))
  ·simpa using hr i _ [] (by simp[Fr.get]) (by simp[qar,gh])
  ·refine hcc () _ _ trivial ?_;rw[qlF _ hH (by simpa[qae,Fr.keep,PV.refs,PV.refsL,gh] using hc)]
   simp[Fr.keep,gh]
theorem qr9 (T:Tab) {n:Nat} {q:K} (hF:T.F n=some (qjN q)) (g:Nat) (dv:α→DV) (p:α→Bool) (c:PV) (cs:List PV) (H0:Heap) (hH:Cl H0) (hc : ∀r∈PV.refsL (c::cs),r<H0.length) (l:List α) (hv : ∀x∈l,T.ref g (.d (dv x)::c::cs) H0=some (.d (.b (p x)),H0)) (s:Bool) (hn:l.length≤maxLen) :
  T.ref n [.d (.l q (l.map dv) s),.f g (c::cs)] H0=some (.d (I (qke p l)),H0):=by
 rw[qg3 T hF rfl];have lp:=fun k r fr H => @qBu α T g q dv p c cs H0 hH hc l hv s hn k r fr H
 simp[qjN,Fr.ofArgs];refine (lp _ (fun j=>some (.d (I j),H0)) _ _ ?_ ?_).trans ?_
 ·intro j fr J h1 h2;simp[h1,h2,qgl,qi9 hH]
 ·rw[qlF _ hH (by simpa[qae,Fr.keep,PV.refs,PV.refsL,gh] using hc)]
  simp[Fr.keep,gh]
 ·unfold qke;cases l.findIdx? p with
  |some j=>rfl
  |none=>simp[qgl,qnd hH]
end
end Go.Sim
end
end
section
namespace Go.Sim
noncomputable def tabU:PT :=
 (.bin 715 qk1 (.bin 30 F30 (.bin 18 F18 (.bin 16 F16 (.bin 12 F12 .nil .nil) .nil) (.bin 24 F24 (.bin 19 F19 .nil .nil) .nil)) (.bin 603 F603 (.bin 59 F59 (.bin 50 F50 .nil .nil) .nil) (.bin 683 F683 .nil .nil))) (.bin 1034 F1034 (.bin 1023 qiC (.bin 950 F950 (.bin 919 qh2 .nil .nil) .nil) (.bin 1027 F1027 .nil .nil)) (.bin 1095 F1095 (.bin 1094 F1094 (.bin 1090 F1090 .nil .nil) .nil) (.bin 1096 F1096 .nil .nil))))
end Go.Sim
end
section
open Go.Sim
attribute [local simp ↓] qd4 qd2 qdU qd3 qdR qdV qdS qdT sqK blK lpK qd9 qd7 qd5 qd8 qd6 qdN qdP qeC qdv qdt qdu qdy qcZ qc0 qcJ qcM qcY qc2 qcL qc3 qcS qcU qcV qcW qc1 qcX qcK qcN qcO qcP qcT qdr qdo qc5 qc4 qdd qc6 qbP qbW qc7 qc8 qeb qcB qea qeA qcE qdj qdk qde qdg qdf qcq qds qcs qda qdn qdi qdh qdc qdb qdm qdp qc9 qdl qdO qcp qcC qdE qeh qcc qdF qct qcu qdq qch qez qcQ qdw qdx qee qeB qec qdW qdX qdY qdZ qd0 qd1 qcR qdD qeF
attribute [local simp] qb3 qef qeg qdI qdJ qdz qdA qex qey qdG qdH rd IOp.adds qaw gh nid rgK rdS qdK qdL qei qej qeo qep qes qen qer qeq qcH qcF qcG qel qek qdC qdB qeu qet qev qew qeJ qeI qeK qbA qeN qeH qeO
section
namespace Go.Sim
set_option maxRecDepth 10000
set_option maxHeartbeats 4000000
def AAccount.zero:AAccount:=⟨0,0,0,0,[],[],[]⟩
def AInterest.zero:AInterest:=⟨⟨[],true⟩,false,0,0,false⟩
def AProduct.zero:AProduct:=⟨[],[],[],0,0,0,0,AInterest.zero,AInterest.zero,⟨[],true⟩,⟨[],true⟩⟩
def qgI (id:Int) (a:AAccount):Bool:=a.Id==id
def qcl (b:ABooks) (id:Int):Option AAccount:=(b.Accounts.l.findIdx? (qgI id)).bind fun j=>b.Accounts.l[j]?
abbrev HU (T:Tab):Prop:=∀n F,tabU.get n=some F→T.F n=some F
theorem qG6 (T:Tab) (hT:HU T) (a:AAccount) (b:ABooks) (id:Int):T.ref 19 [.d a.dv,.p 1 0 0] [some (.box (K1 22) (.d b.dv)),some (.box K0 (.d (I id)))]=some (.d (.b (qgI id a)),[some (.box (K1 22) (.d b.dv)),some (.box K0 (.d (I id)))]):=by
 rw[qg3 T (hT 19 F19 rfl) rfl];have hH:=qmk (K1 22) K0 b.dv (I id)
 simp[F19,Fr.ofArgs,qgl,qgI];exact (qi9 hH [some (.box (K1 7) (.d a.dv))] _)
theorem qIO (T:Tab) (hT:HU T) (b:ABooks) (id:Int) (hb:b.ok):T.val 16 [b.dv,I id]=some (.d (I (qke (qgI id) b.Accounts.l)),false):=by
 rw[qab T (hT 16 F16 rfl) rfl];have e:=qr9 T (hT 18 F18 rfl) 19 AAccount.dv (qgI id) (.p 1 0 0) [] [some (.box (K1 22) (.d b.dv)),some (.box K0 (.d (I id)))] (qmk _ _ _ _) (by simp[PV.refs,PV.refsL]) b.Accounts.l (fun a _=>qG6 T hT a b id) b.Accounts.t (hb.2.2.2.2.2.1).1
 simp[F16,Fr.ofArgs,e]
theorem qn7 (T:Tab) (hT:HU T) (b:ABooks) (id:Int) (hb:b.ok):T.val 12 [b.dv,I id]=some (.t [.d ((qcl b id).getD .zero).dv,.d (.b (qcl b id).isSome)],false):=by
 rw[qab T (hT 12 F12 rfl) rfl];have e:=qIO T hT b id hb
 unfold qke at e;unfold qcl;cases hf:b.Accounts.l.findIdx? (qgI id) with
 |none =>
  rw[hf] at e;simp[F12,Fr.ofArgs,e];try rfl
 |some j =>
  rw[hf] at e;have hj:j<b.Accounts.l.length:=(List.findIdx?_eq_some_iff_findIdx_eq.1 hf).1
  simp[F12,Fr.ofArgs,e,hj];try rfl
end Go.Sim
end
section
namespace Go.Sim
set_option maxRecDepth 10000
set_option maxHeartbeats 4000000
def qat {α β:Type} (f:Nat→β→α→β):Nat→β→List α→β
  | _,b,[]=>b
  |i,b,x::r=>qat f (i+1) (f i b x) r
theorem qf8 {α β R:Type} (f:Nat→β→α→β) (done:β→Option R) (step:Nat→β→α→(β→Option R)→Option R) (hs : ∀i b x c,step i b x c=c (f i b x)) : ∀(i:Nat) (b:β) (ls:List α),qe5 step done i b ls=done (qat f i b ls)
  |i,b,[]=>rfl
  |i,b,x::l=>by rw[qe5,hs,qat,qf8 f done step hs (i+1)]
theorem qua {α β:Type} (f:Nat→β→α→β) (P:Nat→β→Prop) (h : ∀i b x,P i b→P (i+1) (f i b x)) : ∀(l:List α) (i:Nat) (b:β),P i b→P (i+l.length) (qat f i b l)
  | [],i,b,hb=>hb
  |x::l,i,b,hb=>by
    have:=qua f P h l (i+1) (f i b x) (h i b x hb)
    rw[zzn,show i+(l.length+1)=i+1+l.length by omega]
    exact this
def frm (l:List AProduct) (b:Int):Int:=match l[b.toNat]? with|some p=>p.From|none=>0
def cAt (l:List AProduct) (nm:List UInt8) (day b:Int) (p:AProduct):Bool:=(p.Name==nm)&&(decide (p.From≤day)&&(decide (b<0)||decide (frm l b<p.From)))
def fAt (l:List AProduct) (nm:List UInt8) (day:Int) (i:Nat) (b:Int) (p:AProduct):Int:=if cAt l nm day b p=true then (i:Int) else b
def bst (l:List AProduct) (nm:List UInt8) (day:Int):Int:=qat (fAt l nm day) 0 (-1) l
def inB (i:Nat) (b:Int):Prop:=b = -1∨∃j:Nat,b=(j:Int)∧j<i
theorem qqi (l:List AProduct) (nm:List UInt8) (day:Int) (i:Nat) (b:Int) (p:AProduct) (h:inB i b):inB (i+1) (fAt l nm day i b p):=by
  unfold fAt;split
  · exact .inr ⟨i,rfl,by omega⟩
  · rcases h with h|⟨j,h1,h2⟩
    · exact .inl h
    · exact .inr ⟨j,h1,by omega⟩
theorem qtj (l:List AProduct) (nm:List UInt8) (day:Int):inB l.length (bst l nm day):=by
  have:=qua (fAt l nm day) inB (qqi l nm day) l 0 (-1) (.inl rfl)
  simpa[bst] using this
def atP (l:List AProduct) (nm:List UInt8) (day:Int):Option AProduct:=if bst l nm day<0 then none else l[(bst l nm day).toNat]?
theorem qB1 (T:Tab) (l:List AProduct) (t:Bool) (nm:List UInt8) (day:Int) (hn:l.length≤maxLen) {k:KC (PV×Bool)} {fr:Fr} {H:Heap}
    (h0:gc [0,1,2,6,8,11,12,13] 0 ⟨fr,H⟩=⟨[(13,.d (I 0)),(12,.d (I l.length)),(11,.d (.l (K1 19) (l.map AProduct.dv) t)),(8,.d (I (-1))),(6,.p 0 0 0),(2,.d (I day)),(1,.d (.s nm)),(0,.d (.l (K1 19) (l.map AProduct.dv) t))],[some (.box (K1 19) (.d AProduct.zero.dv))]⟩) :
    kC T.env 0 fr H (.h (.loop [0,1,2,6,8,11,12,13] qmv,k))=k (.exit 0) [(14,.d (.b false)),(13,.d (I l.length)),(12,.d (I l.length)),(11,.d (.l (K1 19) (l.map AProduct.dv) t)),(8,.d (I (bst l nm day))),(6,.p 0 0 0),(2,.d (I day)),(1,.d (.s nm)),(0,.d (.l (K1 19) (l.map AProduct.dv) t))] [some (.box (K1 19) (.d AProduct.zero.dv))]:=by
  rw[qbY l (fun i b=>⟨[(13,.d (I i)),(12,.d (I l.length)),(11,.d (.l (K1 19) (l.map AProduct.dv) t)),(8,.d (I b)),(6,.p 0 0 0),(2,.d (I day)),(1,.d (.s nm)),(0,.d (.l (K1 19) (l.map AProduct.dv) t))],[some (.box (K1 19) (.d AProduct.zero.dv))]⟩) inB (fun i b x c=>c (fAt l nm day i b x)) (fun b=>k (.exit 0) [(14,.d (.b false)),(13,.d (I l.length)),(12,.d (I l.length)),(11,.d (.l (K1 19) (l.map AProduct.dv) t)),(8,.d (I b)),(6,.p 0 0 0),(2,.d (I day)),(1,.d (.s nm)),(0,.d (.l (K1 19) (l.map AProduct.dv) t))] [some (.box (K1 19) (.d AProduct.zero.dv))]) ?_ ?_ h0 (.inl rfl)]
  · rw[qf8 (fAt l nm day) _ _ (fun _ _ _ _=>rfl)];rfl
  · intro B _ b _
    simp
  · intro B _ i b hi hv c hc
    have hm:=mxl
    have h1:(i:Int)<l.length:=by omega
    have h3:=wr1 (i:=i) (by omega)
    have hs:=qqi l nm day i b l[i] hv
    rcases hv with rfl|⟨j,rfl,hj⟩
    · simp[h1,hi,↓qbh,↓qbb,↓qbi,↓qa8,qbc,↓qba,↓qa9,↓qbe,↓qbg,qaT,writeS,touchS,qax,qaI,chg,qaZ,qaO,qaE,qaP,PV.refs,IOp.okD,Nat.testBit]
      repeat' (refine qaM (fun h => ?_) (fun h => ?_)<;>(try simp at h)<;>(try simp[h,h3,↓qbj,↓qbb,↓qbi,↓qa8,qbc,↓qba,↓qbr,↓qa9,↓qbe,↓qbg,↓qbQ,qaT,writeS,touchS,qax,qaI,chg,qaZ,qaO,qaE,qaP,PV.refs,PV.refsL,IOp.okD,Nat.testBit]))
      all_goals first
        | (have e:fAt l nm day i (-1) l[i]=(i:Int):=by simp[fAt,cAt, *]
           rw[e] at hs⊢;exact hc _ _ _ hs (by simp[gc,Fr.keep,qaf,qae,qad,PV.refs,qah,gcH,qaj,Obj.refs,PV.ren,Obj.ren,Heap.obj,Fr.ren,gh,zzd]))
        | (have e:fAt l nm day i (-1) l[i] = -1:=by simp[fAt,cAt, *]
           rw[e] at hs⊢;exact hc _ _ _ hs (by simp[gc,Fr.keep,qaf,qae,qad,PV.refs,qah,gcH,qaj,Obj.refs,PV.ren,Obj.ren,Heap.obj,Fr.ren,gh,zzd]))
    · have hj1:j<l.length:=by omega
      have hj2:(j:Int)<l.length:=by omega
      have hg:l[j]? = some l[j]:=zze hj1
      simp[h1,hi,↓qbh,↓qbb,↓qbi,↓qa8,qbc,↓qba,↓qa9,↓qbe,↓qbg,qaT,writeS,touchS,qax,qaI,chg,qaZ,qaO,qaE,qaP,PV.refs,IOp.okD,Nat.testBit];repeat' (refine qaM (fun h => ?_) (fun h => ?_)<;>(try simp at h)<;>(try simp[h,h3,hj1,hj2,↓qbj,↓qbb,↓qbi,↓qa8,qbc,↓qba,↓qbr,↓qa9,↓qbe,↓qbg,↓qbQ,qaT,writeS,touchS,qax,qaI,chg,qaZ,qaO,qaE,qaP,PV.refs,PV.refsL,IOp.okD,Nat.testBit]))
      all_goals first
        | (have e:fAt l nm day i j l[i]=(i:Int):=by simp[fAt,cAt,frm, *]
           rw[e] at hs⊢;exact hc _ _ _ hs (by simp[gc,Fr.keep,qaf,qae,qad,PV.refs,qah,gcH,qaj,Obj.refs,PV.ren,Obj.ren,Heap.obj,Fr.ren,gh,zzd]))
        | (have e:fAt l nm day i j l[i]=j:=by
             simp[fAt,cAt,frm, *];try omega
           rw[e] at hs⊢;exact hc _ _ _ hs (by simp[gc,Fr.keep,qaf,qae,qad,PV.refs,qah,gcH,qaj,Obj.refs,PV.ren,Obj.ren,Heap.obj,Fr.ren,gh,zzd]))
theorem qIR (T:Tab) (hT:HU T) (l:List AProduct) (t:Bool) (nm:List UInt8) (day:Int) (hn:l.length≤maxLen):T.val 30 [.l (K1 19) (l.map AProduct.dv) t,.s nm,I day]=some (.t [.d ((atP l nm day).getD .zero).dv,.d (.b (atP l nm day).isSome)],false):=by
  rw[qab T (hT 30 F30 rfl) rfl];have lp:=fun k fr H => @qB1 T l t nm day hn k fr H
  simp[F30,Fr.ofArgs];refine (lp _ _ _ (by simp[gc,Fr.keep,qaf,qae,qad,PV.refs,qah,gcH,qaj,Obj.refs,PV.ren,Obj.ren,Heap.obj,Fr.ren,gh,zzd];rfl)).trans ?_
  have hb:=qtj l nm day
  unfold atP;generalize bst l nm day=b at hb⊢;rcases hb with rfl|⟨j,rfl,hj⟩
  · simp
    try rfl
  · have hj2:(j:Int)<l.length:=by omega
    have hg:l[j]? = some l[j]:=zze hj
    simp[hj,hj2];repeat' (refine qaM (fun h => ?_) (fun h => ?_)<;>(try simp at h)<;>(try simp[h,hj,hj2]))
end Go.Sim
end
section
namespace Go.Sim
set_option maxRecDepth 10000
set_option maxHeartbeats 4000000
def qem (b:ABooks) (id day:Int):Option AProduct:=match qcl b id with|some a=>atP b.Products.l a.Product day|none=>none
theorem qxH (T:Tab) (hT:HU T) (b:ABooks) (id day:Int) (hb:b.ok):T.val 24 [b.dv,I id,I day]=some (.t [.d ((qem b id day).getD .zero).dv,.d (.b (qem b id day).isSome)],false):=by
 rw[qab T (hT 24 F24 rfl) rfl];have e1:=qn7 T hT b id hb
 have e2:=fun nm=>qIR T hT b.Products.l b.Products.t nm day (hb.2.2.2.2.1).1
 unfold qem;cases hf:qcl b id with
 |none =>
  rw[hf] at e1;simp only[Option.getD_none,Option.isSome_none] at e1;simp[F24,Fr.ofArgs,e1];try rfl
 |some a =>
  rw[hf] at e1;simp only[Option.getD_some,Option.isSome_some] at e1;simp[F24,Fr.ofArgs,e1,e2]
def w64 (n:Int):Int:=IntKind.i64.wrap n
end Go.Sim
end
section
namespace Go.Sim
set_option maxRecDepth 10000
set_option maxHeartbeats 4000000
end Go.Sim
end
end
section
open Go.Sim
attribute [local simp ↓] qd4 qd2 qdU qd3 qdR qdV qdS qdT sqK blK lpK qd9 qd7 qd5 qd8 qd6 qdN qdP qeC qdv qdt qdu qdy qcZ qc0 qcJ qcM qcY qc2 qcL qc3 qcS qcU qcV qcW qc1 qcX qcK qcN qcO qcP qcT qdr qdo qc5 qc4 qdd qc6 qbP qbW qc7 qc8 qeb qcB qea qeA qcE qdj qdk qde qdg qdf qcq qds qcs qda qdn qdi qdh qdc qdb qdm qdp qc9 qdl qdO qcp qcC qdE qeh qcc qdF qct qcu qdq qch qez qcQ qdw qdx qee qeB qec qdW qdX qdY qdZ qd0 qd1 qcR qdD qeF qeS qeT qeQ qeR qeP qeE qeW qeU qe1 qeV qe6
attribute [local simp] qb3 qef qeg qdI qdJ qdz qdA qex qey qdG qdH rd IOp.adds qaw gh nid rgK rdS qdK qdL qei qej qeo qep qes qen qer qeq qcH qcF qcG qel qek qdC qdB qeu qet qev qew qeJ qeI qeK qbA qeN qeH qeO qe4 qe0 qe3 qe2
section
namespace Go.Sim
set_option maxRecDepth 10000
set_option maxHeartbeats 4000000
def qao (k:K):List DV→PV
  | []=>.d (.l k [] true)
  | _x::r=>.r 0 k 0 (r.length+1) false
def qa7 (k:K):List DV→Heap
  | []=>[]
  |x::r=>[some (.sl k 0 (x::r))]
end Go.Sim
end
end
section
open Go.Sim
attribute [local simp ↓] qd4 qd2 qdU qd3 qdR qdV qdS qdT sqK blK lpK qd9 qd7 qd5 qd8 qd6 qdN qdP qeC qdv qdt qdu qdy qcZ qc0 qcJ qcM qcY qc2 qcL qc3 qcS qcU qcV qcW qc1 qcX qcK qcN qcO qcP qcT qdr qdo qc5 qc4 qdd qc6 qbP qbW qc7 qc8 qeb qcB qea qeA qcE qdj qdk qde qdg qdf qcq qds qcs qda qdn qdi qdh qdc qdb qdm qdp qc9 qdl qdO qcp qcC qdE qeh qcc qdF qct qcu qdq qch qez qcQ qdw qdx qee qeB qec qdW qdX qdY qdZ qd0 qd1 qcR qdD qeF qeS qeT qeQ qeR qeP qeE qeW qeU qe1 qeV qe6 qfh qcr
attribute [local simp] qb3 qef qeg qdI qdJ qdz qdA qex qey qdG qdH rd IOp.adds qaw gh nid rgK rdS qdK qdL qei qej qeo qep qes qen qer qeq qcH qcF qcG qel qek qdC qdB qeu qet qev qew qeJ qeI qeK qbA qeN qeH qeO qe4 qe0 qe3 qe2
section
namespace Go.Sim
attribute [local simp] gc Fr.keep qaf qae qad PV.refs PV.refsL qah gcH qaj Obj.refs PV.ren PV.renL Obj.ren Heap.obj Fr.ren gh zzd
set_option maxRecDepth 10000
set_option maxHeartbeats 4000000
def qaK (k:K) (bs:Heap):List DV→Heap
 | []=>bs
 |x::r=>some (.sl k 0 (x::r))::bs
def pB (i:Nat):List DV→PV
 | []=>.p i 0 0
 | _::_=>.p (i+1) 0 0
theorem qkw {α:Type} (f:α→DV) (l:List α) (i:Nat) (h:i<l.length):(l.take (i+1)).map f=(l.take i).map f++[f l[i]]:=by
 rw[List.take_succ_eq_append_getElem h,List.map_append,zzu,List.map_nil]
theorem qCx (T:Tab) (op:Int) (vs:List AValue) (t:Bool) (z:DV) (hn:vs.length*56≤140737488355328) {k:KC (PV×Bool)} {r:Option (PV×Bool)} {fr:Fr} {H:Heap}
  (he:k (.exit 0) [(19,.d (.b false)),(18,.d (I vs.length)),(17,.d (I vs.length)),(16,.d (.l (K1 2) (vs.map AValue.dv) t)),(6,qao K0 (vs.map fun v=>I v.Typ)),(4,pB 0 (vs.map fun v=>I v.Typ)),(1,.d (.l (K1 2) (vs.map AValue.dv) t)),(0,.d (I op))] (qaK K0 [some (.box (K1 2) (.d z))] (vs.map fun v=>I v.Typ))=r)
  (h0:gc [0,1,4,6,16,17,18] 0 ⟨fr,H⟩=⟨[(18,.d (I 0)),(17,.d (I vs.length)),(16,.d (.l (K1 2) (vs.map AValue.dv) t)),(6,.d (.l K0 [] true)),(4,.p 0 0 0),(1,.d (.l (K1 2) (vs.map AValue.dv) t)),(0,.d (I op))],[some (.box (K1 2) (.d z))]⟩) :
  kC T.env 0 fr H (.h (.loop [0,1,4,6,16,17,18] qmG,k))=r:=by
 refine qgo (fun p:Nat×List DV=>⟨[(18,.d (I p.1)),(17,.d (I vs.length)),(16,.d (.l (K1 2) (vs.map AValue.dv) t)),(6,qao K0 p.2),(4,pB 0 p.2),(1,.d (.l (K1 2) (vs.map AValue.dv) t)),(0,.d (I op))],qaK K0 [some (.box (K1 2) (.d z))] p.2⟩) (fun i=>(i,(vs.take i).map fun v=>I v.Typ)) vs.length ?_ ?_ (by rw[h0];rfl)
 ·intro B _;simp only[List.take_length];rw[←he];have h1 : ¬((vs.length:Int)<vs.length):=by omega
  simp
 ·intro B _ i hi c hc;have h1:(i:Int)<vs.length:=by omega
  have h3:=wr1 (i:=i) (by omega)
  have hl:((vs.take i).map fun v=>I v.Typ).length≤i:=by simp;omega
  simp only[qkw (fun v:AValue=>I v.Typ) vs i hi] at hc
  simp only;generalize (vs.take i).map (fun v=>I v.Typ)=o at *
  cases o with
  |nil =>
   simp only[qao,qaK,pB,List.nil_append] at hc⊢;simp[h1,hi,h3];exact hc _ _ (by simp)
  |cons x o =>
   simp only[qao,qaK,pB,List.cons_append] at hc⊢;simp only[zzn] at hl;have h5:(o.length+1+1)*8≤140737488355328:=by omega
   have ht:o.take o.length=o:=List.take_of_length_le (by simp)
   simp[h1,hi,h3,h5,ht];exact hc _ _ (by simp)
theorem qCy (T:Tab) (hT:HT T) (op w:Int) (vs:List AValue) (t:Bool) (z:DV) (hn:vs.length*56≤140737488355328) {k:KC (PV×Bool)} {r:Option (PV×Bool)} {fr:Fr} {H:Heap}
  (he:vs.all okV=true→k (.exit 2) [(40,.d (.b false)),(39,.d (I vs.length)),(38,.d (I vs.length)),(37,.d (.l (K1 2) (vs.map AValue.dv) t)),(9,.d (I w)),(4,.p 0 0 0),(1,.d (.l (K1 2) (vs.map AValue.dv) t)),(0,.d (I op))] [some (.box (K1 2) (.d z))]=r)
  (hr:vs.all okV=false→∀fr J,fr.get 4 = .p 0 0 0→fr.get 5 = .d (I 1)→qar fr=[]→k .ret fr (some (.box (K1 2) (.d (.a [I 0,I 0])))::J)=r)
  (h0:gc [0,1,4,9,37,38,39] 0 ⟨fr,H⟩=⟨[(39,.d (I 0)),(38,.d (I vs.length)),(37,.d (.l (K1 2) (vs.map AValue.dv) t)),(9,.d (I w)),(4,.p 0 0 0),(1,.d (.l (K1 2) (vs.map AValue.dv) t)),(0,.d (I op))],[some (.box (K1 2) (.d z))]⟩) :
  kC T.env 0 fr H (.h (.loop [0,1,4,9,37,38,39] qmH,k))=r:=by
 refine qbN (fun i:Nat=>⟨[(39,.d (I i)),(38,.d (I vs.length)),(37,.d (.l (K1 2) (vs.map AValue.dv) t)),(9,.d (I w)),(4,.p 0 0 0),(1,.d (.l (K1 2) (vs.map AValue.dv) t)),(0,.d (I op))],[some (.box (K1 2) (.d z))]⟩) (fun i=>i≤vs.length∧(vs.take i).all okV=true) (fun i=>vs.length-i) ?_ 0 ⟨Nat.zero_le _,by simp⟩ h0
 rintro B-i ⟨hi,ha⟩ hx;by_cases hlt:i<vs.length
 ·have h1:(i:Int)<vs.length:=by omega
  have h3:=wr1 (i:=i) (by omega)
  have e:=qsC T hT vs[i]
  cases hk:okV vs[i] with
  |true =>
   rw[hk] at e;have hx':=hx (i+1) ⟨by omega,by rw[List.take_succ_eq_append_getElem hlt,List.all_append,ha];simp[hk]⟩ (by omega)
   simp[h1,hlt,e,h3];exact hx' _ _ (by simp)
  |false =>
   rw[hk] at e;have hf:vs.all okV=false:=by
    rw[List.all_eq_false];exact⟨vs[i],zzs hlt,by simp[hk]⟩
   have hr':=hr hf
   simp[h1,hlt,e,↓qan,↓qaq,mkA,qag];exact hr' _ _ (by simp[Fr.get]) (by simp[Fr.get]) (by simp[qar,gh])
 ·have:i=vs.length:=by omega
  subst this;rw[List.take_length] at ha;have he':=he ha
  have h1 : ¬((vs.length:Int)<vs.length):=by omega
  simp;exact he'
def chP (op:Int):List AValue→Int
 | [a]=>IntKind.i64.wrap (1-a.N)
 | [a,b]=>qe9 op a.N b.N
 | [a,b,c]=>if a.N=1 then b.N else c.N
 | _=>0
def clP (op:Int):List AValue→Int×Int
 | [a]=>qbZ (-a.N)
 | [a,b]=>qgU op a b
 | _=>(0,0)
def qbx (w:Int) (ok:Bool) (op:Int) (vs:List AValue):AValue×Int :=
 if ok=false then (⟨0,0⟩,3) else if vs.all okV=false then (⟨0,0⟩,1)
 else if op<5∨9<op then (⟨w,chP op vs⟩,0)
 else if (clP op vs).2=0 then (if okV ⟨w,(clP op vs).1⟩=true then (⟨w,(clP op vs).1⟩,0) else (⟨0,0⟩,6))
 else (⟨0,0⟩,(clP op vs).2)
def qfZ (op:Int) (vs:List AValue):AValue×Int:=qbx (qaV op (vs.map (·.Typ))).1 (qaV op (vs.map (·.Typ))).2 op vs
def qal (p:AValue×Int):PV×Bool:=(.t [.d p.1.dv,.d (I p.2)],false)
theorem qs8 {op a b:Int} : ∀{l},(∀x∈l,(5:Int)≤x.1.1∧x.1.1≤8)→arF l op a b≠none→5≤op∧op≤8
 | [],_,h=>absurd rfl h
 |x::r,hl,h=>by
  rw[arF] at h;by_cases c:op=x.1.1∧a=x.1.2.1∧b=x.1.2.2
  ·have:=hl x (by simp)
   omega
  ·rw[if_neg c] at h;exact qs8 (fun y hy=>hl y (by simp[hy])) h
theorem qpe {op a b:Int} (h:arV op a b≠0):5≤op∧op≤8:=by
 apply qs8 (l:=arL) (a:=a) (b:=b)
 ·decide
 ·intro c;rw[arV,c] at h;exact h rfl
theorem qsr {op a b:Int} (h:(qbl op a b).2=true):op≠9∧op≠16∧op≠19:=by
 unfold qbl at h;by_cases h1:op=10∨op=11
 ·omega
 rw[if_neg h1] at h;by_cases h2:op=12∨op=13
 ·omega
 rw[if_neg h2] at h;by_cases h3:op=14∨op=15
 ·omega
 rw[if_neg h3] at h;by_cases h4:op=17∨op=18
 ·omega
 rw[if_neg h4] at h;have h:arV op a b≠0:=by simpa using h
 have:=qpe h
 omega
theorem qnJ {op a:Int} (h:(qb8 op a).2=true):op=9∨op=16:=by
 unfold qb8 at h;by_cases h1:op=16
 ·exact .inr h1
 ·rw[if_neg h1] at h;by_cases h2:op=9
  ·exact .inl h2
  ·rw[if_neg h2] at h;cases h
theorem qyv (T:Tab) (hT:HT T) (op:Int) (vs:List AValue) (t:Bool) (hi : ∀v∈vs,v.i) (h:(qaV op (vs.map (·.Typ))).2=true) :
  ((op<5∨9<op)→T.val 983 [I op,.l (K1 2) (vs.map AValue.dv) t]=some (.d (I (chP op vs)),false))∧(¬(op<5∨9<op)→T.val 984 [I op,.l (K1 2) (vs.map AValue.dv) t]=some (two (clP op vs))):=by
 unfold qaV at h;by_cases ha:(vs.map (·.Typ)).all qbL=true
 ·rw[if_pos ha] at h;match vs,hi,h with
  | [],_,h=>cases h
  | [a],hi,h =>
   simp only[zzu,List.map_nil] at h⊢;have ho:(qb8 op a.Typ).2=true:=by
    by_cases c:(qb8 op a.Typ).2=true
    ·exact c
    ·rw[if_neg c] at h;cases h
   have:=qnJ ho
   refine⟨fun h1 => ?_,fun h1 => ?_⟩
   ·have:op=16:=by omega
    subst this;exact qJ8 T hT a t
   ·have:op=9:=by omega
    subst this;exact qKa T hT a t (hi a (by simp))
  | [a,b],hi,h =>
   simp only[zzu,List.map_nil] at h⊢;have ho:(qbl op a.Typ b.Typ).2=true:=by
    by_cases c:(qbl op a.Typ b.Typ).2=true
    ·exact c
    ·rw[if_neg c] at h;cases h
   obtain⟨o1,o2,o3⟩:=qsr ho;exact⟨fun _=>qJ6 T hT op a b t o2 o3,fun _=>qJ9 T hT op a b t (hi a (by simp)) (hi b (by simp)) o1⟩
  | [a,b,c],hi,h =>
   simp only[zzu,List.map_nil] at h⊢;have ho:op=19:=by
    by_cases c':op=19∧a.Typ=5∧b.Typ=c.Typ
    ·exact c'.1
    ·rw[if_neg c'] at h;cases h
   subst ho;exact⟨fun _=>qJ7 T hT a b c t,fun h1=>absurd (.inr (by decide)) h1⟩
  | _::_::_::_::_,_,h=>cases h
 ·rw[if_neg ha] at h;cases h
theorem qb9 (l:List DV):(PV.d (.a l)).cells=l.map .d:=rfl
theorem qbf (l:List DV):DV.cells (.a l)=l:=rfl
theorem qir {R:Type} {a b:DV} {q:PV→Option R}:bo (mkP (K1 2) [.d a,.d b]) (.h q)=q (.d (.a [a,b])):=rfl
theorem qJ4 (T:Tab) (hT:HT T) (hA:HA T) (op:Int) (vs:List AValue) (t:Bool) (hn:vs.length*56≤140737488355328) (hi : ∀v∈vs,v.i):T.val 967 [I op,.l (K1 2) (vs.map AValue.dv) t]=some (qal (qfZ op vs)):=by
 have lp0:=fun k r fr H => @qCx T op vs t (.a [I 0,I 0]) hn k r fr H
 have lp1:=fun w k r fr H => @qCy T hT op w vs t (.a [I 0,I 0]) hn k r fr H
 have hm:=mxl
 have e411:=qn9 T hT hA op (vs.map (·.Typ)) false (by rw[zzo,hm];omega)
 have e411t:=qn9 T hT hA op (vs.map (·.Typ)) true (by rw[zzo,hm];omega)
 rw[List.map_map] at e411 e411t;have hp:=qyv T hT op vs t hi
 unfold qfZ;have hmm:((fun n=>I n)∘fun v:AValue=>v.Typ)=fun v:AValue=>I v.Typ:=rfl
 rw[hmm] at e411 e411t;generalize qaV op (vs.map (·.Typ))=p at *
 obtain⟨w,ok⟩:=p;unfold qaD at e411 e411t;simp only at hp e411 e411t⊢;obtain⟨r,hr⟩ : ∃r,some (qal (qbx w ok op vs))=r:=⟨_,rfl⟩;rw[qab T (hT 967 F967 rfl) rfl,hr];simp[F967,Fr.ofArgs];refine lp0 _ _ _ _ ?_ (by simp)
 cases ho:vs.map (fun v=>I v.Typ) with
 |nil =>
  have hv:vs=[]:=by simpa using ho
  subst hv;simp only[List.map_nil] at e411t;cases ok with
  |false =>
   rw[qbx,if_pos rfl] at hr;rw[←hr];simp[qao,qaK,pB,e411t,↓qan,↓qaq,mkA,qag,qal,AValue.dv]
  |true =>
   exfalso
   have:=e411t
   have e0:=qn9 T hT hA op [] true (by simp)
   simp only[List.map_nil] at e0;rw[e0] at this;simp[qaV,qaD] at this
 |cons x o =>
  rw[ho] at e411;have ht:o.take o.length=o:=List.take_of_length_le (by simp)
  cases ok with
  |false =>
   rw[qbx,if_pos rfl] at hr;rw[←hr];simp[qao,qaK,pB,ht,qaL,pur,qbd,PV.scal,PV.scal1,DV.scal,DV.scal1,e411,↓qan,↓qaq,mkA,qag,qal,AValue.dv]
  |true =>
   obtain⟨p1,p2⟩:=hp rfl;rw[qbx,if_neg (by decide)] at hr
   simp[qao,qaK,pB,ht,qaL,pur,qbd,PV.scal,PV.scal1,DV.scal,DV.scal1,e411];refine lp1 w _ _ _ _ (fun ha => ?_) (fun ha fr J f4 f5 fg => ?_) (by simp)
   ·rw[if_neg (by rw[ha];decide)] at hr
    by_cases h5:op<5
    ·rw[if_pos (.inl h5)] at hr;rw[←hr];have e:=p1 (.inl h5)
     simp[h5,e,↓qan,↓qaq,↓qap,putAt,mkA,qag,qak,qam,qb9,qir,qal,AValue.dv]
    ·by_cases h9:9<op
     ·rw[if_pos (.inr h9)] at hr;rw[←hr];have e:=p1 (.inr h9)
      simp[h5,h9,e,↓qan,↓qaq,↓qap,putAt,mkA,qag,qak,qam,qb9,qir,qal,AValue.dv]
     ·rw[if_neg (by omega)] at hr
      rw[←hr];clear hr
      have e:=p2 (by omega)
      generalize clP op vs=q at *
      obtain⟨n,f⟩:=q;unfold two at e;simp only at e⊢;have e3:=qsC T hT ⟨w,n⟩
      rw[AValue.dv] at e3;simp only at e3;by_cases hf:f=0
      ·subst hf;rw[if_pos rfl];cases hk:okV ⟨w,n⟩ with
       |true =>
        rw[hk] at e3;simp[h5,h9,e,e3,↓qan,↓qaq,↓qap,putAt,mkA,qag,qak,qam,qb9,qir,qal,AValue.dv]
       |false =>
        rw[hk] at e3;simp[h5,h9,e,e3,↓qan,↓qaq,↓qap,putAt,mkA,qag,qak,qam,qb9,qir,qal,AValue.dv]
      ·have gf:=qac hf
       rw[if_neg hf];simp[h5,h9,e,gf,bne,↓qan,↓qaq,↓qap,putAt,mkA,qag,qak,qam,qb9,qir,qal,AValue.dv]
   ·rw[if_pos ha] at hr;rw[←hr];simp[f4,f5,fg,qal,AValue.dv]
end Go.Sim
end
end
section
namespace Go.Sim
noncomputable def tabV:PT :=
 (.bin 884 qk5 (.bin 684 qiL (.bin 71 F71 (.bin 65 F65 (.bin 39 F39 (.bin 22 F22 .nil .nil) .nil) (.bin 66 F66 .nil .nil)) (.bin 265 qml (.bin 72 F72 .nil .nil) (.bin 544 qjI .nil .nil))) (.bin 880 qjJ (.bin 801 F801 (.bin 708 qk0 .nil .nil) (.bin 879 qk2 .nil .nil)) (.bin 882 qk3 (.bin 881 F881 .nil .nil) (.bin 883 qk4 .nil .nil)))) (.bin 1038 qfW (.bin 1033 qkE (.bin 934 qla (.bin 933 F933 (.bin 885 qk6 .nil .nil) .nil) (.bin 1030 F1030 .nil .nil)) (.bin 1036 F1036 (.bin 1035 F1035 .nil .nil) (.bin 1037 F1037 .nil .nil))) (.bin 1047 F1047 (.bin 1045 F1045 (.bin 1039 F1039 .nil .nil) (.bin 1046 qkF .nil .nil)) (.bin 1051 qkH (.bin 1050 qkG .nil .nil) (.bin 1060 qkK .nil .nil)))))
abbrev HV (T:Tab):Prop:=∀n F,tabV.get n=some F→T.F n=some F
end Go.Sim
end
section
open Go.Sim
attribute [local simp ↓] qd4 qd2 qdU qd3 qdR qdV qdS qdT sqK blK lpK qd9 qd7 qd5 qd8 qd6 qdN qdP qeC qdv qdt qdu qdy qcZ qc0 qcJ qcM qcY qc2 qcL qc3 qcS qcU qcV qcW qc1 qcX qcK qcN qcO qcP qcT qdr qdo qc5 qc4 qdd qc6 qbP qbW qc7 qc8 qeb qcB qea qeA qcE qdj qdk qde qdg qdf qcq qds qcs qda qdn qdi qdh qdc qdb qdm qdp qc9 qdl qdO qcp qcC qdE qeh qcc qdF qct qcu qdq qch qez qcQ qdw qdx qee qeB qec qdW qdX qdY qdZ qd0 qd1 qcR qdD qeF qeS qeT qeQ qeR qeP qeE qeW qeU qe1 qeV qe6 qfh qcr
attribute [local simp] qb3 qef qeg qdI qdJ qdz qdA qex qey qdG qdH rd IOp.adds qaw gh nid rgK rdS qdK qdL qei qej qeo qep qes qen qer qeq qcH qcF qcG qel qek qdC qdB qeu qet qev qew qeJ qeI qeK qbA qeN qeH qeO qe4 qe0 qe3 qe2
section
namespace Go.Sim
set_option maxRecDepth 10000
set_option maxHeartbeats 4000000
def qbq (d:Int):Bool:=decide (0≤d)&&decide (d≤73048)
def qfS (y:Int):Bool:=(y.tmod 4==0)&&((y.tmod 100 != 0)||(y.tmod 400==0))
def lnI (y m:Int):Int:=if m=2 then (if qfS y=true then 29 else 28) else if m=4∨m=6∨m=9∨m=11 then 30 else if m=1∨m=3∨m=5∨m=7∨m=8∨m=10∨m=12 then 31 else 0
def bgI (y:Int):Int:=365*(y-2000)+(y-2000+3)/4-(if 2100<y then 1 else 0)
def cmI (y:Int):Nat→Int
 | 0=>0
 |n+1=>cmI y n+lnI y (1+n)
theorem qme (T:Tab) (hT:HV T) (d:Int):T.val 22 [I d]=some (.d (.b (qbq d)),false):=by
 rw[qab T (hT 22 F22 rfl) rfl];simp[F22,Fr.ofArgs,qbq];repeat' (refine qaM (fun h => ?_) (fun h => ?_)<;>(try simp at h)<;>(try simp[h]))
 all_goals omega
theorem qob (T:Tab) (hT:HV T) (d:Int):T.val 544 [I d]=some (.d (.b (qbq d)),false):=by
 rw[qab T (hT 544 qjI rfl) rfl];simp[qjI,Fr.ofArgs,qbq];repeat' (refine qaM (fun h => ?_) (fun h => ?_)<;>(try simp at h)<;>(try simp[h]))
 all_goals omega
theorem qJt (T:Tab) (hT:HV T) (y:Int):T.val 66 [I y]=some (.d (.b (qfS y)),false):=by
 rw[qab T (hT 66 F66 rfl) rfl];simp[F66,Fr.ofArgs,qfS];repeat' (refine qaM (fun h => ?_) (fun h => ?_)<;>(try simp at h)<;>(try simp[h]))
 all_goals simp_all
theorem qxz (T:Tab) (hT:HV T) (y:Int):T.val 1060 [I y]=some (.d (.b (qfS y)),false):=by
 rw[qab T (hT 1060 qkK rfl) rfl];simp[qkK,Fr.ofArgs,qfS];repeat' (refine qaM (fun h => ?_) (fun h => ?_)<;>(try simp at h)<;>(try simp[h]))
 all_goals simp_all
theorem qxu (T:Tab) (hT:HV T) (y:Int):T.val 1050 [I y]=some (.d (I (if qfS y=true then 366 else 365)),false):=by
 rw[qab T (hT 1050 qkG rfl) rfl];have e:=qxz T hT y
 simp[qkG,Fr.ofArgs,e];repeat' (refine qaM (fun h => ?_) (fun h => ?_)<;>(try simp at h)<;>(try simp[h]))
 all_goals simp_all
theorem qxv (T:Tab) (hT:HV T) (y m:Int):T.val 1051 [I y,I m]=some (.d (I (lnI y m)),false):=by
 rw[qab T (hT 1051 qkH rfl) rfl];have e:=qxz T hT y
 simp[qkH,Fr.ofArgs];repeat' (refine qaM (fun h => ?_) (fun h => ?_)<;>(try simp at h)<;>(try simp[h,e]))
 all_goals simp_all[lnI]
theorem qod (T:Tab) (hT:HV T) (y:Int) (h1:2000≤y) (h2:y≤3000):T.val 71 [I y]=some (.d (I (bgI y)),false):=by
 rw[qab T (hT 71 F71 rfl) rfl];have w1:IntKind.i64.wrap (y-2000)=y-2000:=wrI (by omega) (by omega)
 have w2:IntKind.i64.wrap (y-2000+3)=y-2000+3:=wrI (by omega) (by omega)
 have q:(y-2000+3).tdiv 4=(y-2000+3)/4:=Int.tdiv_eq_ediv_of_nonneg (by omega)
 have w3:IntKind.i64.wrap ((y-2000+3)/4)=(y-2000+3)/4:=wrI (by omega) (by omega)
 have w4:IntKind.i64.wrap (365*(y-2000))=365*(y-2000):=wrI (by omega) (by omega)
 have w5:IntKind.i64.wrap ((y-2000+3)/4-1)=(y-2000+3)/4-1:=wrI (by omega) (by omega)
 have w6:IntKind.i64.wrap (365*(y-2000)+((y-2000+3)/4-1))=365*(y-2000)+((y-2000+3)/4-1):=wrI (by omega) (by omega)
 have w7:IntKind.i64.wrap (365*(y-2000)+(y-2000+3)/4)=365*(y-2000)+(y-2000+3)/4:=wrI (by omega) (by omega)
 simp[F71,Fr.ofArgs,w1,w2,q,w3];repeat' (refine qaM (fun h => ?_) (fun h => ?_)<;>(try simp at h)<;>(try simp[w1,q,w3,w4,w5,w6,w7]))
 all_goals
  simp_all[bgI]
  try omega
theorem qyk {R:Type} {y:List PV→Option R}:bo (qfg [PV.d (I 0),PV.d (I 0),PV.d (I 0),PV.d (I 0),PV.d (I 0),PV.d (I 0),PV.d (I 0),PV.d (I 0),PV.d (I 0),PV.d (I 0),PV.d (I 0),PV.d (I 0),PV.d (I 0)] [(0,K0,.d (I 0)),(1,K0,.d (I 31)),(2,K0,.d (I 28)),(3,K0,.d (I 31)),(4,K0,.d (I 30)),(5,K0,.d (I 31)),(6,K0,.d (I 30)),(7,K0,.d (I 31)),(8,K0,.d (I 31)),(9,K0,.d (I 30)),(10,K0,.d (I 31)),(11,K0,.d (I 30)),(12,K0,.d (I 31))]) (.h y)=y [.d (I 0),.d (I 31),.d (I 28),.d (I 31),.d (I 30),.d (I 31),.d (I 30),.d (I 31),.d (I 31),.d (I 30),.d (I 31),.d (I 30),.d (I 31)]:=rfl
theorem qCK:mkA [.d (I 0),.d (I 31),.d (I 28),.d (I 31),.d (I 30),.d (I 31),.d (I 30),.d (I 31),.d (I 31),.d (I 30),.d (I 31),.d (I 30),.d (I 31)] = .d (.a [I 0,I 31,I 28,I 31,I 30,I 31,I 30,I 31,I 31,I 30,I 31,I 30,I 31]):=rfl
theorem qoe (T:Tab) (hT:HV T) (y m:Int) (h1:1≤m) (h2:m≤12):T.val 72 [I y,I m]=some (.d (I (lnI y m)),false):=by
 rw[qab T (hT 72 F72 rfl) rfl];have e:=qJt T hT y
 have g:([I 0,I 31,I 28,I 31,I 30,I 31,I 30,I 31,I 31,I 30,I 31,I 30,I 31]:List DV)[m.toNat]? = some (I (if m=2 then 28 else lnI y m)):=by
  have:m=1∨m=2∨m=3∨m=4∨m=5∨m=6∨m=7∨m=8∨m=9∨m=10∨m=11∨m=12:=by omega
  rcases this with rfl|rfl|rfl|rfl|rfl|rfl|rfl|rfl|rfl|rfl|rfl|rfl<;>rfl
 have h3:0≤m:=by omega
 have h4:m<13:=by omega
 have h5:m.toNat<13:=by omega
 simp[F72,Fr.ofArgs,qan,qyk,qCK];repeat' (refine qaM (fun h => ?_) (fun h => ?_)<;>(try simp at h)<;>(try simp[h,e,qyB,qpn,h3,h4,h5,qak,DV.cells]))
 all_goals simp_all[lnI]
theorem qpU {g:Nat→Int} {x:Int} : ∀(N:Nat),g 0≤x→x<g N→∃n,n<N∧g n≤x∧x<g (n+1)
 | 0,h0,h1=>absurd h1 (by omega)
 |N+1,h0,h1=>by
  by_cases h:x<g N
  ·obtain⟨n,a,b,c⟩:=qpU N h0 h;exact⟨n,by omega,b,c⟩
  ·exact⟨N,by omega,by omega,h1⟩
theorem qBh {y:Int} (h1:2000≤y) (h2:y<2200):qfS y=true↔(y%4=0∧y≠2100):=by
 unfold qfS;rw[Int.tmod_eq_emod_of_nonneg (by omega),Int.tmod_eq_emod_of_nonneg (by omega),Int.tmod_eq_emod_of_nonneg (by omega)]
 simp only[zzf,Bool.or_eq_true,beq_iff_eq,bne_iff_ne,ne_eq];omega
theorem qpl {y:Int} (h1:2000≤y) (h2:y<2200):bgI (y+1)=bgI y+(if qfS y=true then 366 else 365):=by
 have h:=qBh h1 h2
 unfold bgI;by_cases g:qfS y=true
 ·rw[if_pos g];have:=h.1 g;split<;>split<;>omega
 ·rw[if_neg g];have : ¬(y%4=0∧y≠2100):=fun q=>g (h.2 q)
  split<;>split<;>omega
theorem qzb (y:Int):cmI y 12=if qfS y=true then 366 else 365:=by
 simp only[cmI,lnI];cases qfS y<;>simp
def Civ (d:Int) (n m:Nat):Prop:=n<200∧bgI (2000+n)≤d∧d<bgI (2000+n+1)∧m<12∧cmI (2000+n) m≤d-bgI (2000+n)∧d-bgI (2000+n)<cmI (2000+n) (m+1)
theorem qmT {d:Int} (h:qbq d=true) : ∃n m,Civ d n m:=by
 simp only[qbq,zzf,zzq] at h;obtain⟨n,h1,h2,h3⟩:=qpU (g:=fun n=>bgI (2000+n)) (x:=d) 200 (by simp[bgI];omega) (by simp[bgI];omega)
 have h3':d<bgI (2000+n+1):=by simpa[Int.add_assoc] using h3
 have h4:=qpl (y:=2000+n) (by omega) (by omega)
 obtain⟨m,h5,h6,h7⟩:=qpU (g:=cmI (2000+n)) (x:=d-bgI (2000+n)) 12 (by simp only[cmI];omega) (by rw[qzb];omega)
 exact⟨n,m,h1,h2,h3',h5,h6,h7⟩
theorem qjf {y:Int} {m:Int} (h1:1≤m) (h2:m≤12):28≤lnI y m∧lnI y m≤31:=by
 unfold lnI;(repeat' split)<;>omega
theorem qiZ (y:Int) : ∀{a b:Nat},a≤b→b≤12→cmI y a≤cmI y b
 |a,0,h,_=>by
  obtain rfl:a=0:=by omega
  exact Int.le_refl _
 |a,b+1,h,hb=>by
  by_cases e:a=b+1
  ·subst e;exact Int.le_refl _
  ·have:=qiZ y (a:=a) (b:=b) (by omega) (by omega)
   have:=qjf (y:=y) (m:=1+b) (by omega) (by omega)
   simp only[cmI];omega
theorem qg9 {a b:Nat} (h:a≤b):bgI (2000+a)≤bgI (2000+b):=by
 unfold bgI;split<;>split<;>omega
end Go.Sim
end
section
namespace Go.Sim
set_option maxRecDepth 10000
set_option maxHeartbeats 4000000
theorem bg0:bgI 2000=0:=by decide
theorem qiY {d:Int} {n m:Nat} (h:Civ d n m):0≤d∧d≤73048:=by
 obtain⟨h1,h2,h3,-⟩:=h
 have:=qg9 (a:=0) (b:=n) (by omega)
 have b:=qg9 (a:=n+1) (b:=200) (by omega)
 have e:bgI (2000+(200:Nat))=73049:=by decide
 have e0:bgI (2000+(0:Nat))=0:=by decide
 rw[show (2000:Int)+((n+1:Nat):Int)=2000+n+1 by omega] at b
 omega
theorem qCc (T:Tab) (hT:HV T) (d:Int) (n m:Nat) (h:Civ d n m) {k:KC (PV×Bool)} {fr:Fr} {H:Heap} (h0:gc [0,5] 0 ⟨fr,H⟩=⟨[(5,.d (I (2000+d/366))),(0,.d (I d))],[]⟩) :
  kC T.env 0 fr H (.h (.loop [0,5] qoS,k))=k (.exit 0) [(17,.d (.b false)),(5,.d (I (2000+n))),(0,.d (I d))] []:=by
 obtain⟨hp,hp2⟩:=qiY h;obtain⟨h1,h2,h3,-⟩:=h;obtain⟨q,hq⟩ : ∃q:Nat,(q:Int)=d/366:=⟨(d/366).toNat,by omega⟩
 have hqd:bgI (2000+q)≤d:=by unfold bgI;split<;>omega
 have hqn:q≤n:=by
  by_cases g:q≤n
  ·exact g
  ·have:=qg9 (a:=n+1) (b:=q) (by omega)
   rw[show (2000:Int)+((n+1:Nat):Int)=2000+n+1 by omega] at this
   omega
 refine qgo (fun y:Int=>⟨[(5,.d (I y)),(0,.d (I d))],[]⟩) (fun i=>2000+((q+i:Nat):Int)) (n-q) ?_ ?_ (by rw[h0,←hq];simp)
 ·intro B _;simp only[Nat.add_sub_cancel' hqn];have w:IntKind.i64.wrap (2000+(n:Int)+1)=2000+n+1:=wrI (by omega) (by omega)
  have e:=qod T hT (2000+n+1) (by omega) (by omega)
  have g : ¬bgI (2000+n+1)≤d:=by omega
  simp[w,e,g]
 ·intro B _ i hi c hc;obtain⟨z,hz⟩ : ∃z:Int,2000+((q+i:Nat):Int)=z:=⟨_,rfl⟩;have hz':2000+((q+(i+1):Nat):Int)=z+1:=by omega
  have b:=qg9 (a:=q+(i+1)) (b:=n) (by omega)
  simp only[hz'] at hc b;simp only[hz];have w:IntKind.i64.wrap (z+1)=z+1:=wrI (by omega) (by omega)
  have e:=qod T hT (z+1) (by omega) (by omega)
  have g:bgI (z+1)≤d:=by omega
  simp[w,e,g];exact hc _ _ (by simp[gc,Fr.keep,qaf,qae,qad,PV.refs,gcH,PV.ren,Obj.ren,Heap.obj,Fr.ren,gh])
theorem qCd (T:Tab) (hT:HV T) (d:Int) (n m:Nat) (h:Civ d n m) {k:KC (PV×Bool)} {fr:Fr} {H:Heap} (h0:gc [0,5,6] 0 ⟨fr,H⟩=⟨[(6,.d (I 1)),(5,.d (I (2000+n))),(0,.d (I (d-bgI (2000+n))))],[]⟩) :
  kC T.env 0 fr H (.h (.loop [0,5,6] qoT,k))=k (.exit 2) [(28,.d (.b false)),(6,.d (I (1+m))),(5,.d (I (2000+n))),(0,.d (I (d-bgI (2000+n)-cmI (2000+n) m)))] []:=by
 obtain⟨hp,hp2⟩:=qiY h;obtain⟨h1,h2,h3,h4,h5,h6⟩:=h;generalize hy:(2000:Int)+n=y at *
 have hb:=qg9 (a:=0) (b:=n) (by omega)
 rw[hy,show (2000:Int)+((0:Nat):Int)=2000 by simp,bg0] at hb
 refine qgo (fun s:Int×Int=>⟨[(6,.d (I s.1)),(5,.d (I y)),(0,.d (I s.2))],[]⟩) (fun i=>(1+(i:Int),d-bgI y-cmI y i)) m ?_ ?_ (by rw[h0];simp[cmI])
 ·intro B _;have e:=qoe T hT y (1+m) (by omega) (by omega)
  have g : ¬lnI y (1+m)≤d-bgI y-cmI y m:=by simp only[cmI] at h6;omega
  simp[e,g]
 ·intro B _ i hi c hc;have e:=qoe T hT y (1+i) (by omega) (by omega)
  have l:=qiZ y (a:=i+1) (b:=m) (by omega) (by omega)
  have l0:=qiZ y (a:=0) (b:=i+1) (by omega) (by omega)
  simp only[cmI] at l l0;have g:lnI y (1+i)≤d-bgI y-cmI y i:=by omega
  have w:IntKind.i64.wrap (1+(i:Int)+1)=1+(i:Int)+1:=wrI (by omega) (by omega)
  have w2:IntKind.i64.wrap (d-bgI y-cmI y i-lnI y (1+i))=d-bgI y-cmI y (i+1):=by
   have:=qjf (y:=y) (m:=1+i) (by omega) (by omega)
   rw[wrI (by omega) (by omega)];simp only[cmI];omega
  simp[w,e,g,w2];exact hc _ _ (by simp[gc,Fr.keep,qaf,qae,qad,PV.refs,gcH,PV.ren,Obj.ren,Heap.obj,Fr.ren,gh];omega)
theorem qJs (T:Tab) (hT:HV T) (d:Int) (n m:Nat) (h:Civ d n m):T.val 65 [I d]=some (.t [.d (I (2000+n)),.d (I (1+m)),.d (I (d-bgI (2000+n)-cmI (2000+n) m+1))],false):=by
 rw[qab T (hT 65 F65 rfl) rfl];obtain⟨hp,hp2⟩:=qiY h;have hv:qbq d=true:=by simp[qbq,hp,hp2]
 have e:=qme T hT d
 have q:d.tdiv 366=d/366:=Int.tdiv_eq_ediv_of_nonneg hp
 have w1:IntKind.i64.wrap (d/366)=d/366:=wrI (by omega) (by omega)
 have w2:IntKind.i64.wrap (2000+d/366)=2000+d/366:=wrI (by omega) (by omega)
 rw[hv] at e;have lp:=fun k fr H => @qCc T hT d n m h k fr H
 have lp2:=fun k fr H => @qCd T hT d n m h k fr H
 have e2:=qod T hT (2000+n) (by omega) (by have:=h.1;omega)
 have hb:=qg9 (a:=0) (b:=n) (by omega)
 rw[show (2000:Int)+((0:Nat):Int)=2000 by simp,bg0] at hb
 have h2:=h.2.1
 have w3:IntKind.i64.wrap (d-bgI (2000+n))=d-bgI (2000+n):=wrI (by omega) (by omega)
 have l0:=qiZ (2000+n) (a:=0) (b:=m) (by omega) (by have:=h.2.2.2.1;omega)
 have h5:=h.2.2.2.2.1
 simp only[cmI] at l0;have w4:IntKind.i64.wrap (d-bgI (2000+n)-cmI (2000+n) m+1)=d-bgI (2000+n)-cmI (2000+n) m+1:=wrI (by omega) (by omega)
 simp[F65,Fr.ofArgs,e,q,w1,w2];refine (lp _ _ _ (by simp[gc,Fr.keep,qaf,qae,qad,PV.refs,gcH,PV.ren,Obj.ren,Heap.obj,Fr.ren,gh])).trans ?_
 simp[e2,w3];refine (lp2 _ _ _ (by simp[gc,Fr.keep,qaf,qae,qad,PV.refs,gcH,PV.ren,Obj.ren,Heap.obj,Fr.ren,gh])).trans ?_
 simp[w4];try rfl
theorem qBH (T:Tab) (hT:HV T) (d:Int) (n m:Nat) (h:Civ d n m) {k:KC (PV×Bool)} {fr:Fr} {H:Heap} (h0:gc [0,5,6] 0 ⟨fr,H⟩=⟨[(6,.d (I 1)),(5,.d (I 2000)),(0,.d (I d))],[]⟩) :
  kC T.env 0 fr H (.h (.loop [0,5,6] qox,k))=k (.exit 0) [(13,.d (.b false)),(6,.d (I 1)),(5,.d (I (2000+n))),(0,.d (I (d-bgI (2000+n))))] []:=by
 obtain⟨hp,hp2⟩:=qiY h;obtain⟨h1,h2,h3,-⟩:=h;refine qgo (fun s:Int×Int=>⟨[(6,.d (I 1)),(5,.d (I s.1)),(0,.d (I s.2))],[]⟩) (fun i=>(2000+(i:Int),d-bgI (2000+(i:Int)))) n ?_ ?_ (by rw[h0];simp[bg0])
 ·intro B _;have e:=qxu T hT (2000+n)
  have s:=qpl (y:=2000+n) (by omega) (by omega)
  have g : ¬(if qfS (2000+(n:Int))=true then (366:Int) else 365)≤d-bgI (2000+n):=by omega
  simp[e,g]
 ·intro B _ i hi c hc;have e:=qxu T hT (2000+i)
  have s:=qpl (y:=2000+i) (by omega) (by omega)
  have b:=qg9 (a:=i+1) (b:=n) (by omega)
  have b0:=qg9 (a:=0) (b:=i) (by omega)
  have z:(2000:Int)+((i+1:Nat):Int)=2000+i+1:=by omega
  rw[show (2000:Int)+((0:Nat):Int)=2000 by simp,bg0] at b0
  rw[z] at b;simp only[z] at hc;generalize hy:(2000:Int)+i=y at *
  have g:(if qfS y=true then (366:Int) else 365)≤d-bgI y:=by omega
  have w:IntKind.i64.wrap (y+1)=y+1:=wrI (by omega) (by omega)
  have w2:IntKind.i64.wrap (d-bgI y-if qfS y=true then (366:Int) else 365)=d-bgI (y+1):=by
   rw[wrI (by split<;>omega) (by split<;>omega)];omega
  simp[w,e,g,w2];exact hc _ _ (by simp[gc,Fr.keep,qaf,qae,qad,PV.refs,gcH,PV.ren,Obj.ren,Heap.obj,Fr.ren,gh])
theorem qBI (T:Tab) (hT:HV T) (d:Int) (n m:Nat) (h:Civ d n m) {k:KC (PV×Bool)} {fr:Fr} {H:Heap} (h0:gc [0,5,6] 0 ⟨fr,H⟩=⟨[(6,.d (I 1)),(5,.d (I (2000+n))),(0,.d (I (d-bgI (2000+n))))],[]⟩) :
  kC T.env 0 fr H (.h (.loop [0,5,6] qoy,k))=k (.exit 2) [(24,.d (.b false)),(6,.d (I (1+m))),(5,.d (I (2000+n))),(0,.d (I (d-bgI (2000+n)-cmI (2000+n) m)))] []:=by
 obtain⟨hp,hp2⟩:=qiY h;obtain⟨h1,h2,h3,h4,h5,h6⟩:=h;generalize hy:(2000:Int)+n=y at *
 have hb:=qg9 (a:=0) (b:=n) (by omega)
 rw[hy,show (2000:Int)+((0:Nat):Int)=2000 by simp,bg0] at hb
 refine qgo (fun s:Int×Int=>⟨[(6,.d (I s.1)),(5,.d (I y)),(0,.d (I s.2))],[]⟩) (fun i=>(1+(i:Int),d-bgI y-cmI y i)) m ?_ ?_ (by rw[h0];simp[cmI])
 ·intro B _;have e:=qxv T hT y (1+m)
  have g : ¬lnI y (1+m)≤d-bgI y-cmI y m:=by simp only[cmI] at h6;omega
  simp[e,g]
 ·intro B _ i hi c hc;have e:=qxv T hT y (1+i)
  have l:=qiZ y (a:=i+1) (b:=m) (by omega) (by omega)
  have l0:=qiZ y (a:=0) (b:=i+1) (by omega) (by omega)
  simp only[cmI] at l l0;have g:lnI y (1+i)≤d-bgI y-cmI y i:=by omega
  have w:IntKind.i64.wrap (1+(i:Int)+1)=1+(i:Int)+1:=wrI (by omega) (by omega)
  have w2:IntKind.i64.wrap (d-bgI y-cmI y i-lnI y (1+i))=d-bgI y-cmI y (i+1):=by
   have:=qjf (y:=y) (m:=1+i) (by omega) (by omega)
   rw[wrI (by omega) (by omega)];simp only[cmI];omega
  simp[w,e,g,w2];exact hc _ _ (by simp[gc,Fr.keep,qaf,qae,qad,PV.refs,gcH,PV.ren,Obj.ren,Heap.obj,Fr.ren,gh];omega)
theorem qIh (T:Tab) (hT:HV T) (d:Int) (n m:Nat) (h:Civ d n m):T.val 1045 [I d]=some (.t [.d (I (2000+n)),.d (I (1+m)),.d (I (d-bgI (2000+n)-cmI (2000+n) m+1))],false):=by
 rw[qab T (hT 1045 F1045 rfl) rfl];obtain⟨hp,hp2⟩:=qiY h;have hv:qbq d=true:=by simp[qbq,hp,hp2]
 have e:=qob T hT d
 rw[hv] at e;have lp:=fun k fr H => @qBH T hT d n m h k fr H
 have lp2:=fun k fr H => @qBI T hT d n m h k fr H
 have hb:=qg9 (a:=0) (b:=n) (by omega)
 rw[show (2000:Int)+((0:Nat):Int)=2000 by simp,bg0] at hb
 have h2:=h.2.1
 have l0:=qiZ (2000+n) (a:=0) (b:=m) (by omega) (by have:=h.2.2.2.1;omega)
 have h5:=h.2.2.2.2.1
 simp only[cmI] at l0;have w4:IntKind.i64.wrap (d-bgI (2000+n)-cmI (2000+n) m+1)=d-bgI (2000+n)-cmI (2000+n) m+1:=wrI (by omega) (by omega)
 simp[F1045,Fr.ofArgs,e];refine (lp _ _ _ (by simp[gc,Fr.keep,qaf,qae,qad,PV.refs,gcH,PV.ren,Obj.ren,Heap.obj,Fr.ren,gh])).trans ?_
 simp;refine (lp2 _ _ _ (by simp[gc,Fr.keep,qaf,qae,qad,PV.refs,gcH,PV.ren,Obj.ren,Heap.obj,Fr.ren,gh])).trans ?_
 simp[w4];try rfl
end Go.Sim
end
end
section
open Go.Sim
attribute [local simp ↓] qd4 qd2 qdU qd3 qdR qdV qdS qdT sqK blK lpK qd9 qd7 qd5 qd8 qd6 qdN qdP qeC qdv qdt qdu qdy qcZ qc0 qcJ qcM qcY qc2 qcL qc3 qcS qcU qcV qcW qc1 qcX qcK qcN qcO qcP qcT qdr qdo qc5 qc4 qdd qc6 qbP qbW qc7 qc8 qeb qcB qea qeA qcE qdj qdk qde qdg qdf qcq qds qcs qda qdn qdi qdh qdc qdb qdm qdp qc9 qdl qdO qcp qcC qdE qeh qcc qdF qct qcu qdq qch qez qcQ qdw qdx qee qeB qec qdW qdX qdY qdZ qd0 qd1 qcR qdD qeF qeS qeT qeQ qeR qeP qeE qeW qeU qe1 qeV qe6
attribute [local simp] qb3 qef qeg qdI qdJ qdz qdA qex qey qdG qdH rd IOp.adds qaw gh nid rgK rdS qdK qdL qei qej qeo qep qes qen qer qeq qcH qcF qcG qel qek qdC qdB qeu qet qev qew qeJ qeI qeK qbA qeN qeH qeO qe4 qe0 qe3 qe2
section
namespace Go.Sim
set_option maxRecDepth 10000
set_option maxHeartbeats 4000000
theorem qCe (T:Tab) (b:ABooks) (id:Int) (hn:b.Accounts.l.length≤maxLen) {k:KC (PV×Bool)} {r:Nat→Option (PV×Bool)} {fr:Fr} {H:Heap}
  (hr : ∀(j:Nat) (hj:j<b.Accounts.l.length) fr,fr.get 4 = .p 0 0 0→fr.get 5 = .d (.b true)→qar fr=[]→k .ret fr [some (.box (K1 7) (.d b.Accounts.l[j].dv)),some (.box (K1 22) (.d b.dv))]=r j)
  (h0:gc [1,2,4,6] 0 ⟨fr,H⟩=⟨[(6,.d (I 0)),(4,.p 0 0 0),(2,.p 1 0 0),(1,.d (I id))],[some (.box (K1 7) (.d AAccount.zero.dv)),some (.box (K1 22) (.d b.dv))]⟩) :
  kC T.env 0 fr H (.h (.loop [1,2,4,6] qoU,k))=match b.Accounts.l.findIdx? (qgI id) with|some j=>r j|none=>k (.exit 0) [(11,.d (.b false)),(6,.d (I b.Accounts.l.length)),(4,.p 0 0 0),(2,.p 1 0 0),(1,.d (I id))] [some (.box (K1 7) (.d AAccount.zero.dv)),some (.box (K1 22) (.d b.dv))]:=by
 have hm:=mxl
 rw[qbY b.Accounts.l (fun i _=>⟨[(6,.d (I i)),(4,.p 0 0 0),(2,.p 1 0 0),(1,.d (I id))],[some (.box (K1 7) (.d AAccount.zero.dv)),some (.box (K1 22) (.d b.dv))]⟩) (fun _ _=>True) (fun i _ x c=>if qgI id x=true then r i else c ()) (fun _=>k (.exit 0) [(11,.d (.b false)),(6,.d (I b.Accounts.l.length)),(4,.p 0 0 0),(2,.p 1 0 0),(1,.d (I id))] [some (.box (K1 7) (.d AAccount.zero.dv)),some (.box (K1 22) (.d b.dv))]) ?_ ?_ h0 trivial]
 ·rw[qse (qgI id) r _ _ (fun _ _ _ _=>rfl)]
  simp only[Nat.zero_add];try rfl
 ·intro B _ _ _;simp
 ·intro B _ i _ hi _ c hc;have h1:(i:Int)<b.Accounts.l.length:=by omega
  have h3:=wr1 (i:=i) (by omega)
  simp[h1,hi];repeat' (refine qaM (fun h => ?_) (fun h => ?_)<;>(try simp at h)<;>(try simp[h1,hi,h3]))
  ·rw[if_pos (by simp[qgI, *])];exact hr i hi _ (by simp[Fr.get]) (by simp[Fr.get]) (by simp[qar,gh])
  ·rw[if_neg (by simp[qgI, *])];exact hc () _ _ trivial (by simp[gc,Fr.keep,qaf,qae,qad,PV.refs,qah,gcH,qaj,Obj.refs,PV.ren,Obj.ren,Heap.obj,Fr.ren,gh,zzd])
theorem qoc (T:Tab) (hT:HU T) (b:ABooks) (id:Int) (hb:b.ok):T.val 683 [b.dv,I id]=some (.t [.d ((qcl b id).getD .zero).dv,.d (.b (qcl b id).isSome)],false):=by
 rw[qab T (hT 683 F683 rfl) rfl];have lp:=fun k r fr H => @qCe T b id (hb.2.2.2.2.2.1).1 k r fr H
 simp[F683,Fr.ofArgs];refine (lp _ (fun j=>some (.t [.d ((b.Accounts.l[j]?).getD .zero).dv,.d (.b true)],false)) _ _ ?_ (by simp[gc,Fr.keep,qaf,qae,qad,PV.refs,qah,gcH,qaj,Obj.refs,PV.ren,Obj.ren,Heap.obj,Fr.ren,gh,zzd,AAccount.zero,AAccount.dv])).trans ?_
 ·intro j hj fr h4 h5 hg;have he:b.Accounts.l[j]? = some b.Accounts.l[j]:=zze hj
  simp[h4,h5,hg,qcc,he]
 ·unfold qcl;cases hf:b.Accounts.l.findIdx? (qgI id) with
  |none =>
   simp;try rfl
  |some j =>
   have hj:j<b.Accounts.l.length:=(List.findIdx?_eq_some_iff_findIdx_eq.1 hf).1
   have he:b.Accounts.l[j]? = some b.Accounts.l[j]:=zze hj
   simp[he]
end Go.Sim
end
section
namespace Go.Sim
set_option maxRecDepth 10000
set_option maxHeartbeats 4000000
theorem qCa (T:Tab) (l:List AProduct) (t:Bool) (nm:List UInt8) (day:Int) (hn:l.length≤maxLen) {k:KC (PV×Bool)} {fr:Fr} {H:Heap}
    (h0:gc [0,1,2,6,8,9] 0 ⟨fr,H⟩=⟨[(9,.d (I 0)),(8,.d (I (-1))),(6,.p 0 0 0),(2,.d (I day)),(1,.d (.s nm)),(0,.d (.l (K1 19) (l.map AProduct.dv) t))],[some (.box (K1 19) (.d AProduct.zero.dv))]⟩) :
    kC T.env 0 fr H (.h (.loop [0,1,2,6,8,9] qmz,k))=k (.exit 0) [(13,.d (.b false)),(9,.d (I l.length)),(8,.d (I (bst l nm day))),(6,.p 0 0 0),(2,.d (I day)),(1,.d (.s nm)),(0,.d (.l (K1 19) (l.map AProduct.dv) t))] [some (.box (K1 19) (.d AProduct.zero.dv))]:=by
  rw[qbY l (fun i b=>⟨[(9,.d (I i)),(8,.d (I b)),(6,.p 0 0 0),(2,.d (I day)),(1,.d (.s nm)),(0,.d (.l (K1 19) (l.map AProduct.dv) t))],[some (.box (K1 19) (.d AProduct.zero.dv))]⟩) inB (fun i b x c=>c (fAt l nm day i b x)) (fun b=>k (.exit 0) [(13,.d (.b false)),(9,.d (I l.length)),(8,.d (I b)),(6,.p 0 0 0),(2,.d (I day)),(1,.d (.s nm)),(0,.d (.l (K1 19) (l.map AProduct.dv) t))] [some (.box (K1 19) (.d AProduct.zero.dv))]) ?_ ?_ h0 (.inl rfl)]
  · rw[qf8 (fAt l nm day) _ _ (fun _ _ _ _=>rfl)];rfl
  · intro B _ b _
    simp
  · intro B _ i b hi hv c hc
    have hm:=mxl
    have h1:(i:Int)<l.length:=by omega
    have h3:=wr1 (i:=i) (by omega)
    have hs:=qqi l nm day i b l[i] hv
    rcases hv with rfl|⟨j,rfl,hj⟩
    · simp[h1,hi,↓qbh,↓qbb,↓qbi,↓qa8,qbc,↓qba,↓qa9,↓qbe,↓qbg,↓qbQ,qaT,writeS,touchS,qax,qaI,chg,qaO,qaE,qaP,PV.refs,IOp.okD,Nat.testBit]
      repeat' (refine qaM (fun h => ?_) (fun h => ?_)<;>(try simp at h)<;>(try simp[h,h1,hi,h3,↓qbj,↓qbb,↓qbi,↓qa8,qbc,↓qba,↓qbr,↓qa9,↓qbe,↓qbg,↓qbQ,qaT,writeS,touchS,qax,qaI,chg,qaO,qaE,qaP,PV.refs,PV.refsL,IOp.okD,Nat.testBit]))
      all_goals first
        | (have e:fAt l nm day i (-1) l[i]=(i:Int):=by simp[fAt,cAt, *]
           rw[e] at hs⊢;exact hc _ _ _ hs (by simp[gc,Fr.keep,qaf,qae,qad,PV.refs,qah,gcH,qaj,Obj.refs,PV.ren,Obj.ren,Heap.obj,Fr.ren,gh,zzd]))
        | (have e:fAt l nm day i (-1) l[i] = -1:=by simp[fAt,cAt, *]
           rw[e] at hs⊢;exact hc _ _ _ hs (by simp[gc,Fr.keep,qaf,qae,qad,PV.refs,qah,gcH,qaj,Obj.refs,PV.ren,Obj.ren,Heap.obj,Fr.ren,gh,zzd]))
    · have hj1:j<l.length:=by omega
      have hj2:(j:Int)<l.length:=by omega
      have hg:l[j]? = some l[j]:=zze hj1
      simp[h1,hi,↓qbh,↓qbb,↓qbi,↓qa8,qbc,↓qba,↓qa9,↓qbe,↓qbg,↓qbQ,qaT,writeS,touchS,qax,qaI,chg,qaO,qaE,qaP,PV.refs,IOp.okD,Nat.testBit];repeat' (refine qaM (fun h => ?_) (fun h => ?_)<;>(try simp at h)<;>(try simp[h,h1,hi,h3,hj1,hj2,↓qbj,↓qbb,↓qbi,↓qa8,qbc,↓qba,↓qbr,↓qa9,↓qbe,↓qbg,↓qbQ,qaT,writeS,touchS,qax,qaI,chg,qaO,qaE,qaP,PV.refs,PV.refsL,IOp.okD,Nat.testBit]))
      all_goals first
        | (have e:fAt l nm day i j l[i]=(i:Int):=by simp[fAt,cAt,frm, *]
           rw[e] at hs⊢;exact hc _ _ _ hs (by simp[gc,Fr.keep,qaf,qae,qad,PV.refs,qah,gcH,qaj,Obj.refs,PV.ren,Obj.ren,Heap.obj,Fr.ren,gh,zzd]))
        | (have e:fAt l nm day i j l[i]=j:=by
             simp[fAt,cAt,frm, *];try omega
           rw[e] at hs⊢;exact hc _ _ _ hs (by simp[gc,Fr.keep,qaf,qae,qad,PV.refs,qah,gcH,qaj,Obj.refs,PV.ren,Obj.ren,Heap.obj,Fr.ren,gh,zzd]))
theorem qJq (T:Tab) (hT:HU T) (l:List AProduct) (t:Bool) (nm:List UInt8) (day:Int) (hn:l.length≤maxLen):T.val 603 [.l (K1 19) (l.map AProduct.dv) t,.s nm,I day]=some (.t [.d ((atP l nm day).getD .zero).dv,.d (.b (atP l nm day).isSome)],false):=by
  rw[qab T (hT 603 F603 rfl) rfl];have lp:=fun k fr H => @qCa T l t nm day hn k fr H
  simp[F603,Fr.ofArgs];refine (lp _ _ _ (by simp[gc,Fr.keep,qaf,qae,qad,PV.refs,qah,gcH,qaj,Obj.refs,PV.ren,Obj.ren,Heap.obj,Fr.ren,gh,zzd];rfl)).trans ?_
  have hb:=qtj l nm day
  unfold atP;generalize bst l nm day=b at hb⊢;rcases hb with rfl|⟨j,rfl,hj⟩
  · simp
    try rfl
  · have hj2:(j:Int)<l.length:=by omega
    have hg:l[j]? = some l[j]:=zze hj
    simp[hj,hj2];repeat' (refine qaM (fun h => ?_) (fun h => ?_)<;>(try simp at h)<;>(try simp[h,hj,hj2]))
theorem qxr (T:Tab) (hT:HU T) (b:ABooks) (id day:Int) (hb:b.ok):T.val 1023 [b.dv,I id,I day]=some (.t [.d ((qem b id day).getD .zero).dv,.d (.b (qem b id day).isSome)],false):=by
  rw[qab T (hT 1023 qiC rfl) rfl];have e1:=qoc T hT b id hb
  have e2:=fun nm=>qJq T hT b.Products.l b.Products.t nm day (hb.2.2.2.2.1).1
  unfold qem;cases hf:qcl b id with
  |none =>
    rw[hf] at e1;simp only[Option.getD_none,Option.isSome_none] at e1;simp[qiC,Fr.ofArgs,e1];try rfl
  |some a =>
    rw[hf] at e1;simp only[Option.getD_some,Option.isSome_some] at e1;simp[qiC,Fr.ofArgs,e1,e2]
end Go.Sim
end
end
section
open Go.Sim
attribute [local simp ↓] qd4 qd2 qdU qd3 qdR qdV qdS qdT sqK blK lpK qd9 qd7 qd5 qd8 qd6 qdN qdP qeC qdv qdt qdu qdy qcZ qc0 qcJ qcM qcY qc2 qcL qc3 qcS qcU qcV qcW qc1 qcX qcK qcN qcO qcP qcT qdr qdo qc5 qc4 qdd qc6 qbP qbW qc7 qc8 qeb qcB qea qeA qcE qdj qdk qde qdg qdf qcq qds qcs qda qdn qdi qdh qdc qdb qdm qdp qc9 qdl qdO qcp qcC qdE qeh qcc qdF qct qcu qdq qch qez qcQ qdw qdx qee qeB qec qdW qdX qdY qdZ qd0 qd1 qcR qdD qeF qeS qeT qeQ qeR qeP qeE qeW qeU qe1 qeV qe6 qfh qcr
attribute [local simp] qb3 qef qeg qdI qdJ qdz qdA qex qey qdG qdH rd IOp.adds qaw gh nid rgK rdS qdK qdL qei qej qeo qep qes qen qer qeq qcH qcF qcG qel qek qdC qdB qeu qet qev qew qeJ qeI qeK qbA qeN qeH qeO qe4 qe0 qe3 qe2
section
namespace Go.Sim
set_option maxRecDepth 10000
set_option maxHeartbeats 4000000
theorem qpk {y:Int} (h:2000≤y) (h2:y≤2200):0≤bgI y∧bgI y≤73049:=by
 unfold bgI;split<;>omega
theorem qpv (y:Int) : ∀m:Nat,m≤12→0≤cmI y m∧cmI y m≤31*m
 | 0,_=>⟨Int.le_refl _,Int.le_refl _⟩
 |m+1,h=>by
  have:=qpv y m (by omega)
  have:=qjf (y:=y) (m:=1+m) (by omega) (by omega)
  simp only[cmI];omega
theorem qCs (T:Tab) (hT:HV T) (y d:Int) (m:Nat) (hm:m<12) (hy:2000≤y) (hy2:y≤2200) (hd:0≤d) (hd2:d<1000) {k:KC (PV×Bool)} {fr:Fr} {H:Heap} (h0:gc [0,1,8,9] 0 ⟨fr,H⟩=⟨[(9,.d (I 1)),(8,.d (I (bgI y+d))),(1,.d (I (1+m))),(0,.d (I y))],[]⟩) :
  kC T.env 0 fr H (.h (.loop [0,1,8,9] qo3,k))=k (.exit 0) [(42,.d (.b false)),(9,.d (I (1+m))),(8,.d (I (bgI y+d+cmI y m))),(1,.d (I (1+m))),(0,.d (I y))] []:=by
 have hb:=qpk hy hy2
 refine qgo (fun s:Int×Int=>⟨[(9,.d (I s.1)),(8,.d (I s.2)),(1,.d (I (1+m))),(0,.d (I y))],[]⟩) (fun i=>(1+(i:Int),bgI y+d+cmI y i)) m ?_ ?_ (by rw[h0];simp[cmI])
 ·intro B _;simp
 ·intro B _ i hi c hc;have e:=qoe T hT y (1+i) (by omega) (by omega)
  have g:(1:Int)+i<1+m:=by omega
  have g2:((i:Int)<m):=by omega
  have w:IntKind.i64.wrap (1+(i:Int)+1)=1+(i:Int)+1:=wrI (by omega) (by omega)
  have w2:IntKind.i64.wrap (bgI y+d+cmI y i+lnI y (1+i))=bgI y+d+cmI y (i+1):=by
   have:=qjf (y:=y) (m:=1+i) (by omega) (by omega)
   have:=qpv y i (by omega)
   rw[wrI (by omega) (by omega)];simp only[cmI];omega
  simp[w,e,g,w2];exact hc _ _ (by simp[gc,Fr.keep,qaf,qae,qad,PV.refs,gcH,PV.ren,Obj.ren,Heap.obj,Fr.ren,gh];omega)
theorem qJW (T:Tab) (hT:HV T) (y d:Int) (m:Nat) (hm:m<12) (hy:2000≤y) (hy2:y<2200) (hd:1≤d) (hd2:d≤lnI y (1+m)):T.val 933 [I y,I (1+m),I d]=some (.t [.d (I (bgI y+(d-1)+cmI y m)),.d (I 0)],false):=by
 rw[qab T (hT 933 F933 rfl) rfl];have l:=qjf (y:=y) (m:=1+m) (by omega) (by omega)
 have hb:=qpk hy (by omega)
 have g1 : ¬y<2000:=by omega
 have g2 : ¬2199<y:=by omega
 have g3 : ¬(1+(m:Int)<1):=by omega
 have g4 : ¬(12<1+(m:Int)):=by omega
 have g5 : ¬d<1:=by omega
 have g6 : ¬lnI y (1+m)<d:=by omega
 have e:=qoe T hT y (1+m) (by omega) (by omega)
 have e2:=qod T hT y hy (by omega)
 have w1:IntKind.i64.wrap (bgI y+d)=bgI y+d:=wrI (by omega) (by omega)
 have w2:IntKind.i64.wrap (bgI y+d-1)=bgI y+(d-1):=by rw[wrI (by omega) (by omega)];omega
 have lp:=fun k fr H => @qCs T hT y (d-1) m hm hy (by omega) (by omega) (by omega) k fr H
 simp[F933,Fr.ofArgs,g1,g2,g3,g4,g5,g6,e,e2,w1,w2];refine (lp _ _ _ (by simp[gc,Fr.keep,qaf,qae,qad,PV.refs,gcH,PV.ren,Obj.ren,Heap.obj,Fr.ren,gh])).trans ?_
 simp
theorem qJG (T:Tab) (hT:HV T) (d:Int) (n m:Nat) (h:Civ d n m):T.val 879 [I d]=some (.d (I (bgI (2000+n)+cmI (2000+n) m)),false):=by
 rw[qab T (hT 879 qk2 rfl) rfl];have e:=qJs T hT d n m h
 obtain⟨h1,h2,h3,h4,h5,h6⟩:=h;have l:=qjf (y:=2000+n) (m:=1+m) (by omega) (by omega)
 have e2:=qJW T hT (2000+n) 1 m h4 (by omega) (by omega) (by omega) (by omega)
 simp[qk2,Fr.ofArgs,e,e2]
theorem qH7 (T:Tab) (hT:HV T) (d:Int) (n m:Nat) (h:Civ d n m):T.val 1033 [I d]=some (.d (I (bgI (2000+n)+cmI (2000+n) m)),false):=by
 rw[qab T (hT 1033 qkE rfl) rfl];have e:=qIh T hT d n m h
 obtain⟨hp,hp2⟩:=qiY h;obtain⟨h1,h2,h3,h4,h5,h6⟩:=h;have hb:=qpk (y:=2000+n) (by omega) (by omega)
 have hc:=qpv (2000+n) m (by omega)
 have w:IntKind.i64.wrap (d-(d-bgI (2000+n)-cmI (2000+n) m+1))=bgI (2000+n)+cmI (2000+n) m-1:=by rw[wrI (by omega) (by omega)];omega
 have w2:IntKind.i64.wrap (bgI (2000+n)+cmI (2000+n) m-1+1)=bgI (2000+n)+cmI (2000+n) m:=by rw[wrI (by omega) (by omega)];omega
 have w3:IntKind.i64.wrap (bgI (2000+n)+cmI (2000+n) m)=bgI (2000+n)+cmI (2000+n) m:=wrI (by omega) (by omega)
 simp[qkE,Fr.ofArgs,e,w,w3]
noncomputable def mst (d:Int):Int:=if h:qbq d=true then bgI (2000+(Classical.choose (qmT h):Nat))+cmI (2000+(Classical.choose (qmT h):Nat)) (Classical.choose (Classical.choose_spec (qmT h))) else 0
theorem qvN {d:Int} (h:qbq d=true) : ∃n m,Civ d n m∧mst d=bgI (2000+n)+cmI (2000+n) m:=by
 refine⟨_,_,Classical.choose_spec (Classical.choose_spec (qmT h)),?_⟩;simp only[mst,h,dite_true]
theorem qJH (T:Tab) (hT:HV T) (d:Int) (h:qbq d=true):T.val 879 [I d]=some (.d (I (mst d)),false):=by
 obtain⟨n,m,h1,e⟩:=qvN h;rw[e];exact qJG T hT d n m h1
theorem qH8 (T:Tab) (hT:HV T) (d:Int) (h:qbq d=true):T.val 1033 [I d]=some (.d (I (mst d)),false):=by
 obtain⟨n,m,h1,e⟩:=qvN h;rw[e];exact qH7 T hT d n m h1
def qgw (b:ABooks) (id day:Int):Bool:=match qcl b id with
 |none=>false
 |some a=>decide (a.Opened≤day)&&((a.Closed==0)||decide (day<a.Closed))
theorem qxK (T:Tab) (hT:HV T) (hU:HU T) (b:ABooks) (id day:Int) (hb:b.ok):T.val 39 [b.dv,I id,I day]=some (.d (.b (qgw b id day)),false):=by
 rw[qab T (hT 39 F39 rfl) rfl];have e:=qn7 T hU b id hb
 unfold qgw;cases hf:qcl b id with
 |none =>
  rw[hf] at e;simp only[Option.getD_none,Option.isSome_none] at e;simp[F39,Fr.ofArgs,e]
 |some a =>
  rw[hf] at e;simp only[Option.getD_some,Option.isSome_some] at e;simp[F39,Fr.ofArgs,e];repeat' (refine qaM (fun h => ?_) (fun h => ?_)<;>(try simp at h)<;>(try simp[h]))
  all_goals (first|(simp_all;done)|omega)
theorem qxW (T:Tab) (hT:HV T) (hU:HU T) (b:ABooks) (id day:Int) (hb:b.ok):T.val 684 [b.dv,I id,I day]=some (.d (.b (qgw b id day)),false):=by
 rw[qab T (hT 684 qiL rfl) rfl];have e:=qoc T hU b id hb
 unfold qgw;cases hf:qcl b id with
 |none =>
  rw[hf] at e;simp only[Option.getD_none,Option.isSome_none] at e;simp[qiL,Fr.ofArgs,e]
 |some a =>
  rw[hf] at e;simp only[Option.getD_some,Option.isSome_some] at e;simp[qiL,Fr.ofArgs,e];repeat' (refine qaM (fun h => ?_) (fun h => ?_)<;>(try simp at h)<;>(try simp[h]))
  all_goals (first|(simp_all;done)|omega)
end Go.Sim
end
section
namespace Go.Sim
set_option maxRecDepth 10000
set_option maxHeartbeats 4000000
def qb5 (acc:Int) (_:Nat) (n:Int) (x:ALeg):Int:=if (x.Account==acc)=true then w64 (n-x.Amount) else n
def qhk (acc:Int) (e:AEntry):Int:=qat (qb5 acc) 0 0 e.Legs.l
def qhL (acc:Int) (_:Nat) (n:Int) (e:AEntry):Int:=w64 (n+qhk acc e)
def ofR (j:List AEntry) (acc:Int):Int:=qat (qhL acc) 0 0 j
theorem qBy (T:Tab) (e:AEntry) (acc:Int) (hn:e.Legs.l.length≤maxLen) {k:KC (PV×Bool)} {fr:Fr} {H:Heap} (h0:gc [1,2,5,6] 0 ⟨fr,H⟩=⟨[(6,(.d (I (0:Int)))),(5,(.d (I 0))),(2,(.p 0 0 0)),(1,(.d (I acc)))],[some (.box (K1 10) (.d e.dv))]⟩) :
    kC T.env 0 fr H (.h (.loop [1,2,5,6] qou,k))=k (.exit 0) [(11,.d (.b false)),(6,(.d (I (e.Legs.l.length:Int)))),(5,(.d (I (qat (qb5 acc) 0 0 e.Legs.l)))),(2,(.p 0 0 0)),(1,(.d (I acc)))] [some (.box (K1 10) (.d e.dv))]:=by
  rw[qbY e.Legs.l (fun i (b:Int)=>⟨[(6,(.d (I (i:Int)))),(5,(.d (I b))),(2,(.p 0 0 0)),(1,(.d (I acc)))],[some (.box (K1 10) (.d e.dv))]⟩) (fun _ _=>True) (fun i b x c=>c (qb5 acc i b x)) (fun b=>k (.exit 0) [(11,.d (.b false)),(6,(.d (I (e.Legs.l.length:Int)))),(5,(.d (I b))),(2,(.p 0 0 0)),(1,(.d (I acc)))] [some (.box (K1 10) (.d e.dv))]) ?_ ?_ h0 trivial]
  · rw[qf8 (qb5 acc) _ _ (fun _ _ _ _=>rfl)]
  · intro B _ b _
    simp
  · intro B _ i b hi _ c hc
    have hm:=mxl
    have h1:(i:Int)<e.Legs.l.length:=by omega
    have h3:=wr1 (i:=i) (by omega)
    simp[h1,hi];repeat' (refine qaM (fun h => ?_) (fun h => ?_)<;>(try simp at h)<;>(try simp[h1,hi,h3]))
    all_goals first
      | (have e:(qb5 acc) i b e.Legs.l[i]=w64 (b-e.Legs.l[i].Amount):=by
           simp[qb5,w64, *];try (intros;omega)
         rw[e];exact hc _ _ _ trivial (by simp[gc,Fr.keep,qaf,qae,qad,PV.refs,qah,gcH,qaj,Obj.refs,PV.ren,Obj.ren,Heap.obj,Fr.ren,gh,zzd];try rfl))
      | (have e:(qb5 acc) i b e.Legs.l[i]=b:=by
           simp[qb5, *];try (intros;omega)
         rw[e];exact hc _ _ _ trivial (by simp[gc,Fr.keep,qaf,qae,qad,PV.refs,qah,gcH,qaj,Obj.refs,PV.ren,Obj.ren,Heap.obj,Fr.ren,gh,zzd];try rfl))
theorem qxs (T:Tab) (hT:HU T) (e:AEntry) (acc:Int) (he:e.ok):T.val 1034 [e.dv,I acc]=some (.d (I (qhk acc e)),false):=by
  rw[qab T (hT 1034 F1034 rfl) rfl];simp[F1034,Fr.ofArgs];refine (qBy T e acc (he.2.2.2.2.2.2.2.2.1).1 (by simp[gc,Fr.keep,qaf,qae,qad,PV.refs,qah,gcH,qaj,Obj.refs,PV.ren,Obj.ren,Heap.obj,Fr.ren,gh,zzd])).trans ?_
  simp[qhk]
theorem qBw (T:Tab) (hT:HU T) (l:List AEntry) (t:Bool) (acc:Int) (hn:l.length≤maxLen) (ho : ∀e∈l,e.ok) {k:KC (PV×Bool)} {fr:Fr} {H:Heap} (h0:gc [0,1,5,6] 0 ⟨fr,H⟩=⟨[(6,(.d (I (0:Int)))),(5,(.d (I 0))),(1,(.d (I acc))),(0,(.d (.l (K1 10) (l.map AEntry.dv) t)))],[]⟩) :
    kC T.env 0 fr H (.h (.loop [0,1,5,6] qot,k))=k (.exit 0) [(10,.d (.b false)),(6,(.d (I (l.length:Int)))),(5,(.d (I (qat (qhL acc) 0 0 l)))),(1,(.d (I acc))),(0,(.d (.l (K1 10) (l.map AEntry.dv) t)))] []:=by
  rw[qbY l (fun i (b:Int)=>⟨[(6,(.d (I (i:Int)))),(5,(.d (I b))),(1,(.d (I acc))),(0,(.d (.l (K1 10) (l.map AEntry.dv) t)))],[]⟩) (fun _ _=>True) (fun i b x c=>c (qhL acc i b x)) (fun b=>k (.exit 0) [(10,.d (.b false)),(6,(.d (I (l.length:Int)))),(5,(.d (I b))),(1,(.d (I acc))),(0,(.d (.l (K1 10) (l.map AEntry.dv) t)))] []) ?_ ?_ h0 trivial]
  · rw[qf8 (qhL acc) _ _ (fun _ _ _ _=>rfl)]
  · intro B _ b _
    simp
  · intro B _ i b hi _ c hc
    have hm:=mxl
    have h1:(i:Int)<l.length:=by omega
    have h3:=wr1 (i:=i) (by omega)
    have hv:=qxs T hT l[i] acc (ho _ (zzs hi))
    simp[h1,hi,h3,hv];repeat' (refine qaM (fun h => ?_) (fun h => ?_)<;>(try simp at h)<;>(try simp[h,h1,hi,h3,hv]))
    all_goals first
      | (have e:(qhL acc) i b l[i]=w64 (b+qhk acc l[i]):=by
           simp[qhL, *];try (intros;omega)
         rw[e];exact hc _ _ _ trivial (by simp[gc,Fr.keep,qaf,qae,qad,PV.refs,gcH,PV.ren,Obj.ren,Heap.obj,Fr.ren,gh];try rfl))
theorem qH4 (T:Tab) (hT:HU T) (l:List AEntry) (t:Bool) (acc:Int) (hn:l.length≤maxLen) (ho : ∀e∈l,e.ok):T.val 1027 [.l (K1 10) (l.map AEntry.dv) t,I acc]=some (.d (I (ofR l acc)),false):=by
  rw[qab T (hT 1027 F1027 rfl) rfl];simp[F1027,Fr.ofArgs];refine (qBw T hT l t acc hn ho (by simp[gc,Fr.keep,qaf,qae,qad,PV.refs,gcH,PV.ren,Obj.ren,Heap.obj,Fr.ren,gh])).trans ?_
  simp[ofR]
end Go.Sim
end
section
namespace Go.Sim
set_option maxRecDepth 10000
set_option maxHeartbeats 4000000
end Go.Sim
end
end
section
namespace Go.Sim
def lsb {α:Type} (f:α→α→Bool):List α→List α→Bool
 | [],[]=>true
 |x::xs,y::ys=>f x y&&lsb f xs ys
 | _,_=>false
theorem qf6 {α:Type} {f:α→α→Bool} (h : ∀x,f x x=true) : ∀l,lsb f l l=true
 | []=>rfl
 |x::l=>by simp[lsb,h,qf6 h l]
def ibq (x y:Int):Bool:=x==y
theorem qeM (x:Int):ibq x x=true:=by simp[ibq]
def sbq (x y:List UInt8):Bool:=x==y
theorem qf9 (x:List UInt8):sbq x x=true:=by simp[sbq]
def bbq (x y:Bool):Bool:=x==y
theorem qyD (x:Bool):bbq x x=true:=by simp[bbq]
mutual
def deq:DV→DV→Bool
 | .b x,.b y=>x==y
 | .i k n,.i k' m=>decide (k=k')&&decide (n=m)
 | .s x,.s y=>x==y
 | .a cs,.a ds=>qj3 cs ds
 | .l _ es _,.l _ fs _=>qj3 es fs
 | .np,.np=>true
 | .nf,.nf=>true
 | .ni,.ni=>true
 | .nm,.nm=>true
 | .ifc t v,.ifc t' w=>Nat.beq t t'&&deq v w
 | .tok n,.tok m=>Nat.beq n m
 | _,_=>false
def qj3:List DV→List DV→Bool
 | [],[]=>true
 |x::xs,y::ys=>deq x y&&qj3 xs ys
 | _,_=>false
end
mutual
theorem qtE : ∀x,deq x x=true
 | .b x=>by simp[deq]
 | .i k n=>by simp[deq]
 | .s x=>by simp[deq]
 | .a cs=>by simp[deq,qm3 cs]
 | .l k es t=>by simp[deq,qm3 es]
 | .np=>rfl
 | .nf=>rfl
 | .ni=>rfl
 | .nm=>rfl
 | .ifc t v=>by simp[deq,qtE v]
 | .tok n=>by simp[deq]
theorem qm3 : ∀x,qj3 x x=true
 | []=>rfl
 |x::xs=>by simp[qj3,qtE x,qm3 xs]
end
def AWide.beq (x y:AWide):Bool:=ibq x.Hi y.Hi&&ibq x.Lo y.Lo
theorem AWide.beq_refl (x:AWide):AWide.beq x x=true:=by
 simp only[AWide.beq,qeM,Bool.and_true]
def ACurrency.beq (x y:ACurrency):Bool:=sbq x.Code y.Code&&ibq x.Digits y.Digits
theorem ACurrency.beq_refl (x:ACurrency):ACurrency.beq x x=true:=by
 simp only[ACurrency.beq,qf9,qeM,Bool.and_true]
def ACalendar.beq (x y:ACalendar):Bool:=sbq x.Name y.Name&&lsb ibq x.Weekend.l y.Weekend.l&&lsb ibq x.Holidays.l y.Holidays.l
theorem ACalendar.beq_refl (x:ACalendar):ACalendar.beq x x=true:=by
 simp only[ACalendar.beq,qf9,qf6 qeM,Bool.and_true]
def AVar.beq (x y:AVar):Bool:=sbq x.Name y.Name&&ibq x.Typ y.Typ
theorem AVar.beq_refl (x:AVar):AVar.beq x x=true:=by
 simp only[AVar.beq,qf9,qeM,Bool.and_true]
def ATier.beq (x y:ATier):Bool:=ibq x.From y.From&&ibq x.Ppm y.Ppm
theorem ATier.beq_refl (x:ATier):ATier.beq x x=true:=by
 simp only[ATier.beq,qeM,Bool.and_true]
def AInterest.beq (x y:AInterest):Bool:=lsb ATier.beq x.Tiers.l y.Tiers.l&&bbq x.Marginal y.Marginal&&ibq x.Basis y.Basis&&ibq x.Mode y.Mode&&bbq x.Keep y.Keep
theorem AInterest.beq_refl (x:AInterest):AInterest.beq x x=true:=by
 simp only[AInterest.beq,qf6 ATier.beq_refl,qyD,qeM,Bool.and_true]
def AExpr.beq (x y:AExpr):Bool:=ibq x.Op y.Op&&ibq x.N y.N&&sbq x.S y.S&&qj3 x.Args.l y.Args.l
theorem AExpr.beq_refl (x:AExpr):AExpr.beq x x=true:=by
 simp only[AExpr.beq,qeM,qf9,qm3,Bool.and_true]
def AFee.beq (x y:AFee):Bool:=sbq x.Name y.Name&&ibq x.Event y.Event&&AExpr.beq x.When y.When&&AExpr.beq x.Amount y.Amount
theorem AFee.beq_refl (x:AFee):AFee.beq x x=true:=by
 simp only[AFee.beq,qf9,qeM,AExpr.beq_refl,Bool.and_true]
def ARule.beq (x y:ARule):Bool:=sbq x.Name y.Name&&ibq x.Window y.Window&&AExpr.beq x.Amount y.Amount
theorem ARule.beq_refl (x:ARule):ARule.beq x x=true:=by
 simp only[ARule.beq,qf9,qeM,AExpr.beq_refl,Bool.and_true]
def AProduct.beq (x y:AProduct):Bool:=sbq x.Name y.Name&&sbq x.Currency y.Currency&&sbq x.Calendar y.Calendar&&ibq x.From y.From&&ibq x.Every y.Every&&ibq x.Overdraft y.Overdraft&&ibq x.TaxPpm y.TaxPpm&&AInterest.beq x.Credit y.Credit&&AInterest.beq x.Debit y.Debit&&lsb AFee.beq x.Fees.l y.Fees.l&&lsb ARule.beq x.Rules.l y.Rules.l
theorem AProduct.beq_refl (x:AProduct):AProduct.beq x x=true:=by
 simp only[AProduct.beq,qf9,qeM,AInterest.beq_refl,qf6 AFee.beq_refl,qf6 ARule.beq_refl,Bool.and_true]
def AGl.beq (x y:AGl):Bool:=ibq x.Id y.Id&&ibq x.Parent y.Parent&&ibq x.Kind y.Kind&&sbq x.Name y.Name
theorem AGl.beq_refl (x:AGl):AGl.beq x x=true:=by
 simp only[AGl.beq,qeM,qf9,Bool.and_true]
def ALeg.beq (x y:ALeg):Bool:=ibq x.Account y.Account&&ibq x.Amount y.Amount&&sbq x.Currency y.Currency
theorem ALeg.beq_refl (x:ALeg):ALeg.beq x x=true:=by
 simp only[ALeg.beq,qeM,qf9,Bool.and_true]
def AEntry.beq (x y:AEntry):Bool:=ibq x.Id y.Id&&ibq x.Booked y.Booked&&ibq x.Value y.Value&&ibq x.Kind y.Kind&&ibq x.Auth y.Auth&&ibq x.Period y.Period&&sbq x.Key y.Key&&sbq x.Text y.Text&&lsb ALeg.beq x.Legs.l y.Legs.l&&ibq x.Chain y.Chain
theorem AEntry.beq_refl (x:AEntry):AEntry.beq x x=true:=by
 simp only[AEntry.beq,qeM,qf9,qf6 ALeg.beq_refl,Bool.and_true]
def AHold.beq (x y:AHold):Bool:=ibq x.Id y.Id&&ibq x.Account y.Account&&ibq x.Amount y.Amount&&ibq x.From y.From&&ibq x.To y.To&&sbq x.Key y.Key
theorem AHold.beq_refl (x:AHold):AHold.beq x x=true:=by
 simp only[AHold.beq,qeM,qf9,Bool.and_true]
def ABlock.beq (x y:ABlock):Bool:=ibq x.Id y.Id&&ibq x.Account y.Account&&ibq x.Kind y.Kind&&ibq x.Amount y.Amount&&ibq x.From y.From&&ibq x.To y.To&&sbq x.Source y.Source
theorem ABlock.beq_refl (x:ABlock):ABlock.beq x x=true:=by
 simp only[ABlock.beq,qeM,qf9,Bool.and_true]
def AAccount.beq (x y:AAccount):Bool:=ibq x.Id y.Id&&ibq x.Opened y.Opened&&ibq x.Closed y.Closed&&ibq x.Extra y.Extra&&sbq x.Owner y.Owner&&sbq x.Product y.Product&&sbq x.Number y.Number
theorem AAccount.beq_refl (x:AAccount):AAccount.beq x x=true:=by
 simp only[AAccount.beq,qeM,qf9,Bool.and_true]
def APlan.beq (x y:APlan):Bool:=ibq x.Cash y.Cash&&ibq x.Deposits y.Deposits&&ibq x.InterestPaid y.InterestPaid&&ibq x.InterestEarned y.InterestEarned&&ibq x.FeeEarned y.FeeEarned&&ibq x.Tax y.Tax&&ibq x.Clearing y.Clearing&&ibq x.Loans y.Loans&&ibq x.LoanInterest y.LoanInterest&&ibq x.Penalty y.Penalty&&ibq x.Provision y.Provision&&ibq x.ProvisionCost y.ProvisionCost&&ibq x.Loss y.Loss&&ibq x.Recovery y.Recovery
theorem APlan.beq_refl (x:APlan):APlan.beq x x=true:=by
 simp only[APlan.beq,qeM,Bool.and_true]
def ABooks.beq (x y:ABooks):Bool:=lsb ACurrency.beq x.Currencies.l y.Currencies.l&&lsb ACalendar.beq x.Calendars.l y.Calendars.l&&lsb AGl.beq x.Chart.l y.Chart.l&&APlan.beq x.Plan y.Plan&&lsb AProduct.beq x.Products.l y.Products.l&&lsb AAccount.beq x.Accounts.l y.Accounts.l&&lsb AEntry.beq x.Journal.l y.Journal.l&&lsb AHold.beq x.Holds.l y.Holds.l&&lsb ABlock.beq x.Blocks.l y.Blocks.l
theorem ABooks.beq_refl (x:ABooks):ABooks.beq x x=true:=by
 simp only[ABooks.beq,qf6 ACurrency.beq_refl,qf6 ACalendar.beq_refl,qf6 AGl.beq_refl,APlan.beq_refl,qf6 AProduct.beq_refl,qf6 AAccount.beq_refl,qf6 AEntry.beq_refl,qf6 AHold.beq_refl,qf6 ABlock.beq_refl,Bool.and_true]
def ACharge.beq (x y:ACharge):Bool:=sbq x.Name y.Name&&ibq x.Amount y.Amount
theorem ACharge.beq_refl (x:ACharge):ACharge.beq x x=true:=by
 simp only[ACharge.beq,qf9,qeM,Bool.and_true]
def AValue.beq (x y:AValue):Bool:=ibq x.Typ y.Typ&&ibq x.N y.N
theorem AValue.beq_refl (x:AValue):AValue.beq x x=true:=by
 simp only[AValue.beq,qeM,Bool.and_true]
end Go.Sim
end
section
open Go.Sim
attribute [local simp ↓] qd4 qd2 qdU qd3 qdR qdV qdS qdT sqK blK lpK qd9 qd7 qd5 qd8 qd6 qdN qdP qeC qdv qdt qdu qdy qcZ qc0 qcJ qcM qcY qc2 qcL qc3 qcS qcU qcV qcW qc1 qcX qcK qcN qcO qcP qcT qdr qdo qc5 qc4 qdd qc6 qbP qbW qc7 qc8 qeb qcB qea qeA qcE qdj qdk qde qdg qdf qcq qds qcs qda qdn qdi qdh qdc qdb qdm qdp qc9 qdl qdO qcp qcC qdE qeh qcc qdF qct qcu qdq qch qez qcQ qdw qdx qee qeB qec qdW qdX qdY qdZ qd0 qd1 qcR qdD qeF qeS qeT qeQ qeR qeP qeE qeW qeU qe1 qeV qe6 qfh qcr
attribute [local simp] qb3 qef qeg qdI qdJ qdz qdA qex qey qdG qdH rd IOp.adds qaw gh nid rgK rdS qdK qdL qei qej qeo qep qes qen qer qeq qcH qcF qcG qel qek qdC qdB qeu qet qev qew qeJ qeI qeK qbA qeN qeH qeO qe4 qe0 qe3 qe2
section
namespace Go.Sim
theorem qyA {e:DV} (h:XE e) : ∃a:AExpr,e=a.dv∧a.ok:=by
 cases h with
 |mk o n s a h1 h2 h3 h4 =>
  cases h4 with
  |mk es h5 h6 h7=>exact⟨⟨o,n,s,⟨es,false⟩⟩,rfl,h1,h2,h3,.mk es h5 h6 h7⟩
theorem qpg {es:List DV} {t:Bool} (h:XL (.l (K1 4) es t)):es.length≤maxLen∧∃l:List AExpr,es=l.map AExpr.dv∧∀a∈l,a.ok:=by
 cases h with
 |mk _ h5 h6=>exact⟨h5,qnx fun e he=>qyA (h6 e he)⟩
theorem qyw {x a:AExpr} (h:a.dv∈x.Args.l):SizeOf.sizeOf a.dv<SizeOf.sizeOf x.dv:=by
 have h1:=List.sizeOf_lt_of_mem h
 have h2:SizeOf.sizeOf x.Args.l<SizeOf.sizeOf x.dv:=by
  simp only[AExpr.dv,DV.a.sizeOf_spec,List.cons.sizeOf_spec,DV.l.sizeOf_spec];omega
 omega
end Go.Sim
end
section
namespace Go.Sim
set_option maxRecDepth 10000
set_option maxHeartbeats 4000000
mutual
def qav:DV→Int→Int
 | .a [_,_,_,.l _ es _],m=>qbm es 1 m
 | _,_=>1
def qbm:List DV→Int→Int→Int
 | [],n,_=>n
 |e::es,n,m=>if n≤m then qbm es (n+qav e (m-n)) m else n
end
mutual
theorem qlw : ∀(e:DV) (m:Int),0≤m→1≤qav e m∧qav e m≤m+1
 | .a [_,_,_,.l _ es _],m,h=>by
  unfold qav;exact qts es 1 m (by omega) (by omega)
 | .a [],m,h=>by unfold qav;omega
 | .a [_],m,h=>by unfold qav;omega
 | .a [_,_],m,h=>by unfold qav;omega
 | .a [_,_,_],m,h=>by unfold qav;omega
 | .a (_::_::_ :: .b _::_),m,h=>by unfold qav;omega
 | .a (_::_::_ :: .i _ _::_),m,h=>by unfold qav;omega
 | .a (_::_::_ :: .s _::_),m,h=>by unfold qav;omega
 | .a (_::_::_ :: .a _::_),m,h=>by unfold qav;omega
 | .a (_::_::_ :: .np::_),m,h=>by unfold qav;omega
 | .a (_::_::_ :: .nf::_),m,h=>by unfold qav;omega
 | .a (_::_::_ :: .ni::_),m,h=>by unfold qav;omega
 | .a (_::_::_ :: .nm::_),m,h=>by unfold qav;omega
 | .a (_::_::_ :: .ifc _ _::_),m,h=>by unfold qav;omega
 | .a (_::_::_ :: .tok _::_),m,h=>by unfold qav;omega
 | .a (_::_::_ :: .l _ _ _::_::_),m,h=>by unfold qav;omega
 | .b _,m,h=>by unfold qav;omega
 | .i _ _,m,h=>by unfold qav;omega
 | .s _,m,h=>by unfold qav;omega
 | .l _ _ _,m,h=>by unfold qav;omega
 | .np,m,h=>by unfold qav;omega
 | .nf,m,h=>by unfold qav;omega
 | .ni,m,h=>by unfold qav;omega
 | .nm,m,h=>by unfold qav;omega
 | .ifc _ _,m,h=>by unfold qav;omega
 | .tok _,m,h=>by unfold qav;omega
theorem qts : ∀(es:List DV) (n m:Int),1≤n→n≤m+1→1≤qbm es n m∧qbm es n m≤m+1
 | [],n,m,h1,h2=>⟨h1,h2⟩
 |e::es,n,m,h1,h2=>by
  unfold qbm;split
  ·rename_i h
   have:=qlw e (m-n) (by omega)
   exact qts es _ m (by omega) (by omega)
  ·exact⟨h1,h2⟩
end
theorem qCw (T:Tab) (x:AExpr) (l:List AExpr) (hl:x.Args.l=l.map AExpr.dv) (m:Int) (hm0:0≤m) (hm1:m≤1000) (hn:l.length≤maxLen) (hv : ∀y∈l,∀m',0≤m'→m'≤1000→T.val 950 [y.dv,I m']=some (.d (I (qav y.dv m')),false)) {k:KC (PV×Bool)} {r:Int→Option (PV×Bool)} {fr:Fr} {H:Heap}
  (hk : ∀(i:Nat) (n:Int),k (.exit 0) [(16,.d (.b false)),(6,.d (I i)),(5,.d (I n)),(2,.p 0 0 0),(1,.d (I m))] [some (.box (K1 4) (.d x.dv))]=r n)
  (h0:gc [1,2,5,6] 0 ⟨fr,H⟩=⟨[(6,.d (I 0)),(5,.d (I 1)),(2,.p 0 0 0),(1,.d (I m))],[some (.box (K1 4) (.d x.dv))]⟩) :
  kC T.env 0 fr H (.h (.loop [1,2,5,6] qo5,k))=r (qbm x.Args.l 1 m):=by
 have hm:=mxl
 rw[qbY l (fun i (n:Int)=>⟨[(6,.d (I i)),(5,.d (I n)),(2,.p 0 0 0),(1,.d (I m))],[some (.box (K1 4) (.d x.dv))]⟩) (fun _ n=>1≤n∧n≤m+1) (fun i n y c=>if n≤m then c (n+qav y.dv (m-n)) else r n) r ?_ ?_ h0 ⟨by omega,by omega⟩]
 ·have key : ∀(es:List AExpr) (i:Nat) (n:Int),qe5 (fun i n y c=>if n≤m then c (n+qav (AExpr.dv y) (m-n)) else r n) r i n es=r (qbm (es.map AExpr.dv) n m):=by
   intro es;induction es with
   |nil=>intro i n;simp[qe5,qbm]
   |cons y es ih =>
    intro i n;rw[qe5,zzu,qbm];split
    ·exact ih _ _
    ·rfl
  rw[hl];exact key l 0 1
 ·intro B _ n _
  have:=hk l.length n
  simp[hl];exact this
 ·intro B _ i n hi hn1 c hc;have h1:(i:Int)<l.length:=by omega
  have h3:=wr1 (i:=i) (by omega)
  have h4:IntKind.i64.wrap (m-n)=m-n:=wrI (by omega) (by omega)
  simp[h1,hl];refine qaM (fun h => ?_) (fun h => ?_)
  ·simp at h;have hb:=qlw l[i].dv (m-n) (by omega)
   have h5:IntKind.i64.wrap (n+qav l[i].dv (m-n))=n+qav l[i].dv (m-n):=wrI (by omega) (by omega)
   have hw:=hv l[i] (zzs hi) (m-n) (by omega) (by omega)
   simp[h,h1,hi,h3,h4,h5,hw,hl];exact hc _ _ _ ⟨by omega,by omega⟩ (by simp[gc,Fr.keep,qaf,qae,qad,PV.refs,qah,gcH,qaj,Obj.refs,PV.ren,Obj.ren,Heap.obj,Fr.ren,gh,zzd])
  ·simp at h;have h' : ¬n≤m:=by omega
   simp[h'];exact hk i n
theorem qsB (T:Tab) (hT:HU T) : ∀(n:Nat) (x:AExpr),SizeOf.sizeOf x.dv<n→x.ok→∀m,0≤m→m≤1000→T.val 950 [x.dv,I m]=some (.d (I (qav x.dv m)),false)
 | 0,_,h,_,_,_,_=>absurd h (zzm _)
 |n+1,x,hs,hx,m,h0,h1=>by
  obtain⟨hlen,l,hl,hlo⟩:=qpg hx.2.2.2;rw[qab T (hT 950 F950 rfl) rfl];have hn:l.length≤maxLen:=by rw[hl] at hlen;simpa using hlen
  have lp:=fun k r fr H => @qCw T x l hl m h0 h1 hn (fun y hy=>qsB T hT n y (by have:=qyw (x:=x) (a:=y) (by rw[hl];exact List.mem_map_of_mem hy);omega) (hlo _ hy)) k r fr H
  simp[F950,Fr.ofArgs];refine (lp _ (fun n=>some (.d (I n),false)) _ _ (fun i n => ?_) (by simp[gc,Fr.keep,qaf,qae,qad,PV.refs,qah,gcH,qaj,Obj.refs,PV.ren,Obj.ren,Heap.obj,Fr.ren,gh,zzd])).trans ?_
  ·simp
  ·rfl
theorem qsA (T:Tab) (hT:HU T) (x:AExpr) (hx:x.ok):T.val 919 [x.dv,I 100]=some (.d (.b (decide (100<qav x.dv 100))),false):=by
 rw[qab T (hT 919 qh2 rfl) rfl];have e:=qsB T hT _ x (Nat.lt_succ_self _) hx 100 (by decide) (by decide)
 simp[qh2,Fr.ofArgs,e]
end Go.Sim
end
section
namespace Go.Sim
set_option maxRecDepth 10000
set_option maxHeartbeats 8000000
def qgh {R:Type} (n:Nat) (k:KC R) (r:Option R):Prop:=∀fr H,fr.get n = .d (.b true)→qar fr=[]→k .ret fr H=r
theorem qh8 {R:Type} {n id:Nat} {k:KC R} {r:Option R}:qgh n (blK id k) r=qgh n k r:=rfl
theorem qia {R:Type} {n:Nat} {E:Env} {base:Nat} {b:PC} {k:KC R} {r:Option R}:qgh n (sqK E base b k) r=qgh n k r:=rfl
theorem qh9 {n:Nat} {E:Env}:qgh n (fin E [.t n]) (some (.d (.b true),false))=True:=by
  refine eq_true ?_;intro fr H h1 h2;rw[qcc h2,qcu,qct,h1];rfl
def qhd (h:AHold):Bool:=decide (200<h.Key.length)
def qlH (l:List AHold):Bool:=decide (100<l.length)||l.any qhd
def qhe (x:ALeg):Bool:=decide (100<x.Currency.length)
def qgB (e:AEntry):Bool:=decide (30<e.Legs.l.length)||decide (1000<e.Key.length)||decide (1000<e.Text.length)||e.Legs.l.any qhe
def grX (x:AExpr):Bool:=decide (100<qav x.dv 100)
def qf3 (f:AFee):Bool:=decide (100<f.Name.length)||grX f.When||grX f.Amount
def qgC (f:ARule):Bool:=decide (100<f.Name.length)||grX f.Amount
def qdM (p:AProduct):Bool:=decide (100<p.Name.length)||decide (100<p.Currency.length)||decide (100<p.Calendar.length)||decide (20<p.Credit.Tiers.l.length)||decide (20<p.Debit.Tiers.l.length)||decide (10<p.Fees.l.length)||decide (10<p.Rules.l.length)||p.Fees.l.any qf3||p.Rules.l.any qgC
def qhc (c:ACalendar):Bool:=decide (400<c.Holidays.l.length)||decide (20<c.Weekend.l.length)
def qf4 (b:ABooks):Bool:=decide (20<b.Currencies.l.length)||decide (10<b.Calendars.l.length)||decide (60<b.Chart.l.length)||decide (20<b.Products.l.length)||decide (40<b.Accounts.l.length)||decide (150<b.Journal.l.length)||qlH b.Holds.l||decide (100<b.Blocks.l.length)||b.Products.l.any qdM||b.Journal.l.any qgB||b.Calendars.l.any qhc
theorem qBQ (T:Tab) (l:List AHold) (t:Bool) (hn:l.length≤maxLen) {k:KC (PV×Bool)} {r:Option (PV×Bool)} {fr:Fr} {H:Heap} (hr:qgh 2 k r) (h0:gc [0,3] 0 ⟨fr,H⟩=⟨[(3,(.d (I (0:Int)))),(0,(.d (.l (K1 6) (l.map AHold.dv) t)))],[]⟩) :
    kC T.env 0 fr H (.h (.loop [0,3] qoF,k))=brn (l.any (qhd)) (.h (r,k (.exit 0) [(10,.d (.b false)),(3,(.d (I (l.length:Int)))),(0,(.d (.l (K1 6) (l.map AHold.dv) t)))] [])):=by
  have hm:=mxl
  rw[qbY l (fun i _=>⟨[(3,(.d (I (i:Int)))),(0,(.d (.l (K1 6) (l.map AHold.dv) t)))],[]⟩) (fun _ _=>True) (fun i _ x c=>if (qhd) x=true then r else c ()) (fun _=>k (.exit 0) [(10,.d (.b false)),(3,(.d (I (l.length:Int)))),(0,(.d (.l (K1 6) (l.map AHold.dv) t)))] []) ?_ ?_ h0 trivial]
  · rw[qhS (qhd) r]
    · cases l.any (qhd)<;>rfl
    · exact fun _ _ _ _=>rfl
  · intro B _ _ _
    simp
  · intro B _ i _ hi _ c hc
    have h1:(i:Int)<l.length:=by omega
    have h3:=wr1 (i:=i) (by omega)
    simp[h1,hi];repeat' (refine qaM (fun h => ?_) (fun h => ?_)<;>(try simp at h)<;>(try simp[h3]))
    all_goals first
      | (have e:(qhd) l[i]=true:=by
           simp[qhd, *];try omega
         rw[if_pos e];exact hr _ _ (by simp[Fr.get]) (by simp[qar,gh]))
      | (have e : ¬(qhd) l[i]=true:=by
           simp[qhd, *];try omega
         rw[if_neg e];exact hc () _ _ trivial (by simp[gc,Fr.keep,qaf,qae,qad,PV.refs,gcH,PV.ren,Obj.ren,Heap.obj,Fr.ren,gh]))
theorem qID (T:Tab) (hT:HU T) (l:List AHold) (t:Bool) (hn:l.length≤maxLen):T.val 1094 [.l (K1 6) (l.map AHold.dv) t]=some (.d (.b (qlH l)),false):=by
  rw[qab T (hT 1094 F1094 rfl) rfl];have lp:=fun k fr H => @qBQ T l t hn k (some (.d (.b true),false)) fr H
  obtain⟨q,hq⟩ : ∃q,l.any qhd=q:=⟨_,rfl⟩;simp only[hq] at lp;have hs:qlH l=(decide (100<l.length)||q):=by rw[qlH,hq]
  clear hq
  simp[F1094,Fr.ofArgs];repeat' first
    | (refine qaM (fun h => ?_) (fun h => ?_)<;>(try simp at h)<;>(try simp))
    |refine (lp _ _ _ (by simp[qh8,qia,qh9]) (by simp[gc,Fr.keep,qaf,qae,qad,PV.refs,gcH,PV.ren,Obj.ren,Heap.obj,Fr.ren,gh])).trans ?_
  all_goals simp_all
  all_goals omega
theorem qBT (T:Tab) (e:AEntry) (hn:e.Legs.l.length≤maxLen) {k:KC (PV×Bool)} {r:Option (PV×Bool)} {fr:Fr} {H:Heap} (hr:qgh 2 k r) (h0:gc [1,3] 0 ⟨fr,H⟩=⟨[(3,(.d (I (0:Int)))),(1,(.p 0 0 0))],[some (.box (K1 10) (.d e.dv))]⟩) :
    kC T.env 0 fr H (.h (.loop [1,3] qoI,k))=brn (e.Legs.l.any (qhe)) (.h (r,k (.exit 0) [(24,.d (.b false)),(3,(.d (I (e.Legs.l.length:Int)))),(1,(.p 0 0 0))] [some (.box (K1 10) (.d e.dv))])):=by
  have hm:=mxl
  rw[qbY e.Legs.l (fun i _=>⟨[(3,(.d (I (i:Int)))),(1,(.p 0 0 0))],[some (.box (K1 10) (.d e.dv))]⟩) (fun _ _=>True) (fun i _ x c=>if (qhe) x=true then r else c ()) (fun _=>k (.exit 0) [(24,.d (.b false)),(3,(.d (I (e.Legs.l.length:Int)))),(1,(.p 0 0 0))] [some (.box (K1 10) (.d e.dv))]) ?_ ?_ h0 trivial]
  · rw[qhS (qhe) r]
    · cases e.Legs.l.any (qhe)<;>rfl
    · exact fun _ _ _ _=>rfl
  · intro B _ _ _
    simp
  · intro B _ i _ hi _ c hc
    have h1:(i:Int)<e.Legs.l.length:=by omega
    have h3:=wr1 (i:=i) (by omega)
    simp[h1,hi];repeat' (refine qaM (fun h => ?_) (fun h => ?_)<;>(try simp at h)<;>(try simp[h3]))
    all_goals first
      | (have e:(qhe) e.Legs.l[i]=true:=by
           simp[qhe, *];try omega
         rw[if_pos e];exact hr _ _ (by simp[Fr.get]) (by simp[qar,gh]))
      | (have e : ¬(qhe) e.Legs.l[i]=true:=by
           simp[qhe, *];try omega
         rw[if_neg e];exact hc () _ _ trivial (by simp[gc,Fr.keep,qaf,qae,qad,PV.refs,qah,gcH,qaj,Obj.refs,PV.ren,Obj.ren,Heap.obj,Fr.ren,gh,zzd]))
theorem qIF (T:Tab) (hT:HU T) (e:AEntry) (he:e.ok):T.val 1096 [e.dv]=some (.d (.b (qgB e)),false):=by
  rw[qab T (hT 1096 F1096 rfl) rfl];have lp:=fun k fr H => @qBT T e (he.2.2.2.2.2.2.2.2.1).1 k (some (.d (.b true),false)) fr H
  obtain⟨q,hq⟩ : ∃q,e.Legs.l.any qhe=q:=⟨_,rfl⟩;simp only[hq] at lp;have hs:qgB e=(decide (30<e.Legs.l.length)||decide (1000<e.Key.length)||decide (1000<e.Text.length)||q):=by rw[qgB,hq]
  clear hq
  simp[F1096,Fr.ofArgs];repeat' first
    | (refine qaM (fun h => ?_) (fun h => ?_)<;>(try simp at h)<;>(try simp[h]))
    |refine (lp _ _ _ (by simp[qh8,qia,qh9]) (by simp[gc,Fr.keep,qaf,qae,qad,PV.refs,qah,gcH,qaj,Obj.refs,PV.ren,Obj.ren,Heap.obj,Fr.ren,gh,zzd])).trans ?_
  all_goals simp_all
  all_goals omega
end Go.Sim
end
section
namespace Go.Sim
set_option maxRecDepth 10000
set_option maxHeartbeats 8000000
theorem qBR (T:Tab) (hT:HU T) (p:AProduct) (hn:p.Fees.l.length≤maxLen) (ho : ∀f∈p.Fees.l,f.ok) {k:KC (PV×Bool)} {r:Option (PV×Bool)} {fr:Fr} {H:Heap} (hr:qgh 2 k r) (h0:gc [1,3] 0 ⟨fr,H⟩=⟨[(3,(.d (I (0:Int)))),(1,(.p 0 0 0))],[some (.box (K1 19) (.d p.dv))]⟩) :
    kC T.env 0 fr H (.h (.loop [1,3] qoG,k))=brn (p.Fees.l.any (qf3)) (.h (r,k (.exit 0) [(51,.d (.b false)),(3,(.d (I (p.Fees.l.length:Int)))),(1,(.p 0 0 0))] [some (.box (K1 19) (.d p.dv))])):=by
  have hm:=mxl
  rw[qbY p.Fees.l (fun i _=>⟨[(3,(.d (I (i:Int)))),(1,(.p 0 0 0))],[some (.box (K1 19) (.d p.dv))]⟩) (fun _ _=>True) (fun i _ x c=>if (qf3) x=true then r else c ()) (fun _=>k (.exit 0) [(51,.d (.b false)),(3,(.d (I (p.Fees.l.length:Int)))),(1,(.p 0 0 0))] [some (.box (K1 19) (.d p.dv))]) ?_ ?_ h0 trivial]
  · rw[qhS (qf3) r]
    · cases p.Fees.l.any (qf3)<;>rfl
    · exact fun _ _ _ _=>rfl
  · intro B _ _ _
    simp
  · intro B _ i _ hi _ c hc
    have h1:(i:Int)<p.Fees.l.length:=by omega
    have h3:=wr1 (i:=i) (by omega)
    have o1:=ho _ (zzs hi)
    have e0:=qsA T hT p.Fees.l[i].When o1.2.2.1
    have e1:=qsA T hT p.Fees.l[i].Amount o1.2.2.2
    simp[h1,hi];repeat' (refine qaM (fun h => ?_) (fun h => ?_)<;>(try simp at h)<;>(try simp[h,h1,hi,h3,e0,e1]))
    all_goals first
      | (have e:(qf3) p.Fees.l[i]=true:=by
           simp[qf3,grX, *];try omega
         rw[if_pos e];exact hr _ _ (by simp[Fr.get]) (by simp[qar,gh]))
      | (have e : ¬(qf3) p.Fees.l[i]=true:=by
           simp[qf3,grX, *];try omega
         rw[if_neg e];exact hc () _ _ trivial (by simp[gc,Fr.keep,qaf,qae,qad,PV.refs,qah,gcH,qaj,Obj.refs,PV.ren,Obj.ren,Heap.obj,Fr.ren,gh,zzd]))
theorem qBS (T:Tab) (hT:HU T) (p:AProduct) (hn:p.Rules.l.length≤maxLen) (ho : ∀f∈p.Rules.l,f.ok) {k:KC (PV×Bool)} {r:Option (PV×Bool)} {fr:Fr} {H:Heap} (hr:qgh 2 k r) (h0:gc [1,4] 0 ⟨fr,H⟩=⟨[(4,(.d (I (0:Int)))),(1,(.p 0 0 0))],[some (.box (K1 19) (.d p.dv))]⟩) :
    kC T.env 0 fr H (.h (.loop [1,4] qoH,k))=brn (p.Rules.l.any (qgC)) (.h (r,k (.exit 2) [(84,.d (.b false)),(4,(.d (I (p.Rules.l.length:Int)))),(1,(.p 0 0 0))] [some (.box (K1 19) (.d p.dv))])):=by
  have hm:=mxl
  rw[qbY p.Rules.l (fun i _=>⟨[(4,(.d (I (i:Int)))),(1,(.p 0 0 0))],[some (.box (K1 19) (.d p.dv))]⟩) (fun _ _=>True) (fun i _ x c=>if (qgC) x=true then r else c ()) (fun _=>k (.exit 2) [(84,.d (.b false)),(4,(.d (I (p.Rules.l.length:Int)))),(1,(.p 0 0 0))] [some (.box (K1 19) (.d p.dv))]) ?_ ?_ h0 trivial]
  · rw[qhS (qgC) r]
    · cases p.Rules.l.any (qgC)<;>rfl
    · exact fun _ _ _ _=>rfl
  · intro B _ _ _
    simp
  · intro B _ i _ hi _ c hc
    have h1:(i:Int)<p.Rules.l.length:=by omega
    have h3:=wr1 (i:=i) (by omega)
    have o1:=ho _ (zzs hi)
    have e1:=qsA T hT p.Rules.l[i].Amount o1.2.2
    simp[h1,hi];repeat' (refine qaM (fun h => ?_) (fun h => ?_)<;>(try simp at h)<;>(try simp[h,h1,hi,h3,e1]))
    all_goals first
      | (have e:(qgC) p.Rules.l[i]=true:=by
           simp[qgC,grX, *];try omega
         rw[if_pos e];exact hr _ _ (by simp[Fr.get]) (by simp[qar,gh]))
      | (have e : ¬(qgC) p.Rules.l[i]=true:=by
           simp[qgC,grX, *];try omega
         rw[if_neg e];exact hc () _ _ trivial (by simp[gc,Fr.keep,qaf,qae,qad,PV.refs,qah,gcH,qaj,Obj.refs,PV.ren,Obj.ren,Heap.obj,Fr.ren,gh,zzd]))
theorem qIE (T:Tab) (hT:HU T) (p:AProduct) (hp:p.ok):T.val 1095 [p.dv]=some (.d (.b (qdM p)),false):=by
  rw[qab T (hT 1095 F1095 rfl) rfl];have lp0:=fun k fr H => @qBR T hT p (hp.2.2.2.2.2.2.2.2.2.1).1 (hp.2.2.2.2.2.2.2.2.2.1).2 k (some (.d (.b true),false)) fr H
  have lp1:=fun k fr H => @qBS T hT p (hp.2.2.2.2.2.2.2.2.2.2).1 (hp.2.2.2.2.2.2.2.2.2.2).2 k (some (.d (.b true),false)) fr H
  obtain⟨q0,hq0⟩ : ∃q,p.Fees.l.any qf3=q:=⟨_,rfl⟩;obtain⟨q1,hq1⟩ : ∃q,p.Rules.l.any qgC=q:=⟨_,rfl⟩;simp only[hq0] at lp0;simp only[hq1] at lp1;have hs:qdM p=(decide (100<p.Name.length)||decide (100<p.Currency.length)||decide (100<p.Calendar.length)||decide (20<p.Credit.Tiers.l.length)||decide (20<p.Debit.Tiers.l.length)||decide (10<p.Fees.l.length)||decide (10<p.Rules.l.length)||q0||q1):=by rw[qdM,hq0,hq1]
  clear hq0 hq1
  simp[F1095,Fr.ofArgs];repeat' first
    | (refine qaM (fun h => ?_) (fun h => ?_)<;>(try simp at h)<;>(try simp[h]))
    |refine (lp0 _ _ _ (by simp[qh8,qia,qh9]) (by simp[gc,Fr.keep,qaf,qae,qad,PV.refs,qah,gcH,qaj,Obj.refs,PV.ren,Obj.ren,Heap.obj,Fr.ren,gh,zzd])).trans ?_
    |refine (lp1 _ _ _ (by simp[qh8,qia,qh9]) (by simp[gc,Fr.keep,qaf,qae,qad,PV.refs,qah,gcH,qaj,Obj.refs,PV.ren,Obj.ren,Heap.obj,Fr.ren,gh,zzd])).trans ?_
  all_goals simp_all
  all_goals omega
theorem qBN (T:Tab) (hT:HU T) (b:ABooks) (hn:b.Products.l.length≤maxLen) (ho : ∀f∈b.Products.l,f.ok) {k:KC (PV×Bool)} {r:Option (PV×Bool)} {fr:Fr} {H:Heap} (hr:qgh 2 k r) (h0:gc [1,3] 0 ⟨fr,H⟩=⟨[(3,(.d (I (0:Int)))),(1,(.p 0 0 0))],[some (.box (K1 22) (.d b.dv))]⟩) :
    kC T.env 0 fr H (.h (.loop [1,3] qoC,k))=brn (b.Products.l.any (qdM)) (.h (r,k (.exit 0) [(55,.d (.b false)),(3,(.d (I (b.Products.l.length:Int)))),(1,(.p 0 0 0))] [some (.box (K1 22) (.d b.dv))])):=by
  have hm:=mxl
  rw[qbY b.Products.l (fun i _=>⟨[(3,(.d (I (i:Int)))),(1,(.p 0 0 0))],[some (.box (K1 22) (.d b.dv))]⟩) (fun _ _=>True) (fun i _ x c=>if (qdM) x=true then r else c ()) (fun _=>k (.exit 0) [(55,.d (.b false)),(3,(.d (I (b.Products.l.length:Int)))),(1,(.p 0 0 0))] [some (.box (K1 22) (.d b.dv))]) ?_ ?_ h0 trivial]
  · rw[qhS (qdM) r]
    · cases b.Products.l.any (qdM)<;>rfl
    · exact fun _ _ _ _=>rfl
  · intro B _ _ _
    simp
  · intro B _ i _ hi _ c hc
    have h1:(i:Int)<b.Products.l.length:=by omega
    have h3:=wr1 (i:=i) (by omega)
    have e1:=qIE T hT b.Products.l[i] (ho _ (zzs hi))
    obtain⟨q,hq⟩ : ∃q,qdM b.Products.l[i]=q:=⟨_,rfl⟩;rw[hq] at e1;simp[h1,hi,e1];repeat' (refine qaM (fun h => ?_) (fun h => ?_)<;>(try simp at h)<;>(try simp[h3]))
    all_goals first
      | (have e:(qdM) b.Products.l[i]=true:=by
           simp[*];try omega
         rw[if_pos e];exact hr _ _ (by simp[Fr.get]) (by simp[qar,gh]))
      | (have e : ¬(qdM) b.Products.l[i]=true:=by
           simp[*];try omega
         rw[if_neg e];exact hc () _ _ trivial (by simp[gc,Fr.keep,qaf,qae,qad,PV.refs,qah,gcH,qaj,Obj.refs,PV.ren,Obj.ren,Heap.obj,Fr.ren,gh,zzd]))
theorem qBO (T:Tab) (hT:HU T) (b:ABooks) (hn:b.Journal.l.length≤maxLen) (ho : ∀f∈b.Journal.l,f.ok) {k:KC (PV×Bool)} {r:Option (PV×Bool)} {fr:Fr} {H:Heap} (hr:qgh 2 k r) (h0:gc [1,4] 0 ⟨fr,H⟩=⟨[(4,(.d (I (0:Int)))),(1,(.p 0 0 0))],[some (.box (K1 22) (.d b.dv))]⟩) :
    kC T.env 0 fr H (.h (.loop [1,4] qoD,k))=brn (b.Journal.l.any (qgB)) (.h (r,k (.exit 2) [(68,.d (.b false)),(4,(.d (I (b.Journal.l.length:Int)))),(1,(.p 0 0 0))] [some (.box (K1 22) (.d b.dv))])):=by
  have hm:=mxl
  rw[qbY b.Journal.l (fun i _=>⟨[(4,(.d (I (i:Int)))),(1,(.p 0 0 0))],[some (.box (K1 22) (.d b.dv))]⟩) (fun _ _=>True) (fun i _ x c=>if (qgB) x=true then r else c ()) (fun _=>k (.exit 2) [(68,.d (.b false)),(4,(.d (I (b.Journal.l.length:Int)))),(1,(.p 0 0 0))] [some (.box (K1 22) (.d b.dv))]) ?_ ?_ h0 trivial]
  · rw[qhS (qgB) r]
    · cases b.Journal.l.any (qgB)<;>rfl
    · exact fun _ _ _ _=>rfl
  · intro B _ _ _
    simp
  · intro B _ i _ hi _ c hc
    have h1:(i:Int)<b.Journal.l.length:=by omega
    have h3:=wr1 (i:=i) (by omega)
    have e1:=qIF T hT b.Journal.l[i] (ho _ (zzs hi))
    obtain⟨q,hq⟩ : ∃q,qgB b.Journal.l[i]=q:=⟨_,rfl⟩;rw[hq] at e1;simp[h1,hi,e1];repeat' (refine qaM (fun h => ?_) (fun h => ?_)<;>(try simp at h)<;>(try simp[h3]))
    all_goals first
      | (have e:(qgB) b.Journal.l[i]=true:=by
           simp[*];try omega
         rw[if_pos e];exact hr _ _ (by simp[Fr.get]) (by simp[qar,gh]))
      | (have e : ¬(qgB) b.Journal.l[i]=true:=by
           simp[*];try omega
         rw[if_neg e];exact hc () _ _ trivial (by simp[gc,Fr.keep,qaf,qae,qad,PV.refs,qah,gcH,qaj,Obj.refs,PV.ren,Obj.ren,Heap.obj,Fr.ren,gh,zzd]))
theorem qBP (T:Tab) (b:ABooks) (hn:b.Calendars.l.length≤maxLen) {k:KC (PV×Bool)} {r:Option (PV×Bool)} {fr:Fr} {H:Heap} (hr:qgh 2 k r) (h0:gc [1,5] 0 ⟨fr,H⟩=⟨[(5,(.d (I (0:Int)))),(1,(.p 0 0 0))],[some (.box (K1 22) (.d b.dv))]⟩) :
    kC T.env 0 fr H (.h (.loop [1,5] qoE,k))=brn (b.Calendars.l.any (qhc)) (.h (r,k (.exit 4) [(81,.d (.b false)),(5,(.d (I (b.Calendars.l.length:Int)))),(1,(.p 0 0 0))] [some (.box (K1 22) (.d b.dv))])):=by
  have hm:=mxl
  rw[qbY b.Calendars.l (fun i _=>⟨[(5,(.d (I (i:Int)))),(1,(.p 0 0 0))],[some (.box (K1 22) (.d b.dv))]⟩) (fun _ _=>True) (fun i _ x c=>if (qhc) x=true then r else c ()) (fun _=>k (.exit 4) [(81,.d (.b false)),(5,(.d (I (b.Calendars.l.length:Int)))),(1,(.p 0 0 0))] [some (.box (K1 22) (.d b.dv))]) ?_ ?_ h0 trivial]
  · rw[qhS (qhc) r]
    · cases b.Calendars.l.any (qhc)<;>rfl
    · exact fun _ _ _ _=>rfl
  · intro B _ _ _
    simp
  · intro B _ i _ hi _ c hc
    have h1:(i:Int)<b.Calendars.l.length:=by omega
    have h3:=wr1 (i:=i) (by omega)
    simp[h1,hi];repeat' (refine qaM (fun h => ?_) (fun h => ?_)<;>(try simp at h)<;>(try simp[h,h1,hi,h3]))
    all_goals first
      | (have e:(qhc) b.Calendars.l[i]=true:=by
           simp[qhc, *];try omega
         rw[if_pos e];exact hr _ _ (by simp[Fr.get]) (by simp[qar,gh]))
      | (have e : ¬(qhc) b.Calendars.l[i]=true:=by
           simp[qhc, *];try omega
         rw[if_neg e];exact hc () _ _ trivial (by simp[gc,Fr.keep,qaf,qae,qad,PV.refs,qah,gcH,qaj,Obj.refs,PV.ren,Obj.ren,Heap.obj,Fr.ren,gh,zzd]))
theorem qIC (T:Tab) (hT:HU T) (b:ABooks) (hb:b.ok):T.val 1090 [b.dv]=some (.d (.b (qf4 b)),false):=by
  rw[qab T (hT 1090 F1090 rfl) rfl];have lp0:=fun k fr H => @qBN T hT b (hb.2.2.2.2.1).1 (hb.2.2.2.2.1).2 k (some (.d (.b true),false)) fr H
  have lp1:=fun k fr H => @qBO T hT b (hb.2.2.2.2.2.2.1).1 (hb.2.2.2.2.2.2.1).2 k (some (.d (.b true),false)) fr H
  have lp2:=fun k fr H => @qBP T b (hb.2.1).1 k (some (.d (.b true),false)) fr H
  have e:=qID T hT b.Holds.l b.Holds.t (hb.2.2.2.2.2.2.2.1).1
  obtain⟨q0,hq0⟩ : ∃q,b.Products.l.any qdM=q:=⟨_,rfl⟩;obtain⟨q1,hq1⟩ : ∃q,b.Journal.l.any qgB=q:=⟨_,rfl⟩;obtain⟨q2,hq2⟩ : ∃q,b.Calendars.l.any qhc=q:=⟨_,rfl⟩;obtain⟨q3,hq3⟩ : ∃q,qlH b.Holds.l=q:=⟨_,rfl⟩;simp only[hq0] at lp0;simp only[hq1] at lp1;simp only[hq2] at lp2;simp only[hq3] at e;have hs:qf4 b=(decide (20<b.Currencies.l.length)||decide (10<b.Calendars.l.length)||decide (60<b.Chart.l.length)||decide (20<b.Products.l.length)||decide (40<b.Accounts.l.length)||decide (150<b.Journal.l.length)||q3||decide (100<b.Blocks.l.length)||q0||q1||q2):=by rw[qf4,hq0,hq1,hq2,hq3]
  clear hq0 hq1 hq2 hq3
  simp[F1090,Fr.ofArgs];repeat' first
    | (refine qaM (fun h => ?_) (fun h => ?_)<;>(try simp at h)<;>(try simp[h,e]))
    |refine (lp0 _ _ _ (by simp[qh8,qia,qh9]) (by simp[gc,Fr.keep,qaf,qae,qad,PV.refs,qah,gcH,qaj,Obj.refs,PV.ren,Obj.ren,Heap.obj,Fr.ren,gh,zzd])).trans ?_
    |refine (lp1 _ _ _ (by simp[qh8,qia,qh9]) (by simp[gc,Fr.keep,qaf,qae,qad,PV.refs,qah,gcH,qaj,Obj.refs,PV.ren,Obj.ren,Heap.obj,Fr.ren,gh,zzd])).trans ?_
    |refine (lp2 _ _ _ (by simp[qh8,qia,qh9]) (by simp[gc,Fr.keep,qaf,qae,qad,PV.refs,qah,gcH,qaj,Obj.refs,PV.ren,Obj.ren,Heap.obj,Fr.ren,gh,zzd])).trans ?_
  all_goals simp_all
  all_goals omega
end Go.Sim
end
section
namespace Go.Sim
set_option maxRecDepth 10000
set_option maxHeartbeats 4000000
def qgJ (id:Int) (x:ALeg):Bool:=x.Account==id
def tch (id:Int) (e:AEntry):Bool:=e.Legs.l.any (qgJ id)
theorem quL {α:Type} (p:α→Bool) (l:List α):decide (0≤qke p l)=l.any p:=by
  unfold qke;cases h:l.findIdx? p with
  |none =>
    have:=List.findIdx?_eq_none_iff.1 h
    have:l.any p=false:=by
      rw[List.any_eq_false];intro x hx;simpa using this x hx
    rw[this];rfl
  |some j =>
    have:l.any p=true:=by
      obtain⟨hj,h1,-⟩:=List.findIdx?_eq_some_iff_getElem.1 h;exact List.any_eq_true.2 ⟨_,zzs hj,h1⟩
    rw[this];simp
theorem qHb {α:Type} (T:Tab) (hT:HV T) (g:Nat) (dv:α→DV) (p:α→Bool) (c:PV) (cs:List PV) (H0:Heap) (hH:Cl H0) (hc : ∀r∈PV.refsL (c::cs),r<H0.length) (l:List α) (hv : ∀x∈l,T.ref g (.d (dv x)::c::cs) H0=some (.d (.b (p x)),H0)) (s:Bool) (hn:l.length≤maxLen) :
    T.ref 708 [.d (.l (K1 3) (l.map dv) s),.f g (c::cs)] H0=some (.d (.b (l.any p)),H0):=by
  rw[qg3 T (hT 708 qk0 rfl) rfl];have e:=qr9 T (hT 265 qml rfl) g dv p c cs H0 hH hc l hv s hn
  have e2:=quL p l
  simp[qk0,Fr.ofArgs,e,e2,qgl,qnd hH]
theorem qHc (T:Tab) (hT:HV T) (x:ALeg) (e:AEntry) (id:Int):T.ref 934 [.d x.dv,.p 1 0 0] [some (.box (K1 10) (.d e.dv)),some (.box K0 (.d (I id)))]=some (.d (.b (qgJ id x)),[some (.box (K1 10) (.d e.dv)),some (.box K0 (.d (I id)))]):=by
  rw[qg3 T (hT 934 qla rfl) rfl];have hH:=qmk (K1 10) K0 e.dv (I id)
  simp[qla,Fr.ofArgs,qgl,qgJ];exact (qi9 hH [some (.box (K1 3) (.d x.dv))] _)
theorem qJN (T:Tab) (hT:HV T) (e:AEntry) (id:Int) (hn:e.Legs.l.length≤maxLen):T.val 883 [e.dv,I id]=some (.d (.b (tch id e)),false):=by
  rw[qab T (hT 883 qk4 rfl) rfl];have e1:=qHb T hT 934 ALeg.dv (qgJ id) (.p 1 0 0) [] [some (.box (K1 10) (.d e.dv)),some (.box K0 (.d (I id)))] (qmk _ _ _ _) (by simp[PV.refs,PV.refsL]) e.Legs.l (fun a _=>qHc T hT a e id) e.Legs.t hn
  simp[qk4,Fr.ofArgs,e1,tch]
theorem qBJ (T:Tab) (e:AEntry) (id:Int) (hn:e.Legs.l.length≤maxLen) {k:KC (PV×Bool)} {r:Option (PV×Bool)} {fr:Fr} {H:Heap} (hr:qgh 4 k r) (h0:gc [1,2,5] 0 ⟨fr,H⟩=⟨[(5,.d (I (0:Int))),(2,.p 0 0 0),(1,.d (I id))],[some (.box (K1 10) (.d e.dv))]⟩) :
    kC T.env 0 fr H (.h (.loop [1,2,5] qoz,k))=brn (e.Legs.l.any (qgJ id)) (.h (r,k (.exit 0) [(10,.d (.b false)),(5,.d (I (e.Legs.l.length:Int))),(2,.p 0 0 0),(1,.d (I id))] [some (.box (K1 10) (.d e.dv))])):=by
  have hm:=mxl
  rw[qbY e.Legs.l (fun i _=>⟨[(5,.d (I (i:Int))),(2,.p 0 0 0),(1,.d (I id))],[some (.box (K1 10) (.d e.dv))]⟩) (fun _ _=>True) (fun i _ x c=>if (qgJ id) x=true then r else c ()) (fun _=>k (.exit 0) [(10,.d (.b false)),(5,.d (I (e.Legs.l.length:Int))),(2,.p 0 0 0),(1,.d (I id))] [some (.box (K1 10) (.d e.dv))]) ?_ ?_ h0 trivial]
  · rw[qhS (qgJ id) r]
    · cases e.Legs.l.any (qgJ id)<;>rfl
    · exact fun _ _ _ _=>rfl
  · intro B _ _ _
    simp
  · intro B _ i _ hi _ c hc
    have h1:(i:Int)<e.Legs.l.length:=by omega
    have h3:=wr1 (i:=i) (by omega)
    simp[h1,hi];repeat' (refine qaM (fun h => ?_) (fun h => ?_)<;>(try simp at h)<;>(try simp[h3]))
    all_goals first
      | (have e:(qgJ id) e.Legs.l[i]=true:=by
           simp[qgJ, *];try omega
         rw[if_pos e];exact hr _ _ (by simp[Fr.get]) (by simp[qar,gh]))
      | (have e : ¬(qgJ id) e.Legs.l[i]=true:=by
           simp[qgJ, *];try omega
         rw[if_neg e];exact hc () _ _ trivial (by simp[gc,Fr.keep,qaf,qae,qad,PV.refs,qah,gcH,qaj,Obj.refs,PV.ren,Obj.ren,Heap.obj,Fr.ren,gh,zzd]))
theorem qIi (T:Tab) (hT:HV T) (e:AEntry) (id:Int) (hn:e.Legs.l.length≤maxLen):T.val 1047 [e.dv,I id]=some (.d (.b (tch id e)),false):=by
  rw[qab T (hT 1047 F1047 rfl) rfl];have lp:=fun k r fr H => @qBJ T e id hn k r fr H
  unfold tch;simp[F1047,Fr.ofArgs];refine (lp _ (some (.d (.b true),false)) _ _ (by simp[qh8,qia,qh9]) (by simp[gc,Fr.keep,qaf,qae,qad,PV.refs,qah,gcH,qaj,Obj.refs,PV.ren,Obj.ren,Heap.obj,Fr.ren,gh,zzd])).trans ?_
  refine qaM (fun h => ?_) (fun h => ?_)
  · rw[h]
  · simp[h]
def qeZ (id frm upto:Int) (_:Nat) (n:Int) (e:AEntry):Int:=if (decide (frm≤e.Booked)&&(decide (e.Booked≤upto)&&tch id e))=true then w64 (n+1) else n
def qhH (j:List AEntry) (id frm upto:Int):Int:=qat (qeZ id frm upto) 0 0 j
theorem qCi (T:Tab) (hT:HV T) (a:AAccount) (l:List AEntry) (t:Bool) (id frm upto amt now low vol:Int) (hn:l.length≤maxLen) (ho : ∀e∈l,e.ok) {k:KC (PV×Bool)} {fr:Fr} {H:Heap} (h0:gc [1,2,3,10,12,13,14,16,18,75,76,77] 0 ⟨fr,H⟩=⟨[(77,(.d (I (0:Int)))),(76,(.d (I l.length))),(75,(.d (.l (K1 10) (l.map AEntry.dv) t))),(18,(.d (I 0))),(16,(.d (I vol))),(14,(.d (I low))),(13,(.d (I now))),(12,(.d (I frm))),(10,(.p 0 0 0)),(3,(.d (I amt))),(2,(.d (I upto))),(1,(.d (I id)))],[some (.box (K1 7) (.d a.dv))]⟩) :
    kC T.env 0 fr H (.h (.loop [1,2,3,10,12,13,14,16,18,75,76,77] qoX,k))=k (.exit 1) [(78,.d (.b false)),(77,(.d (I (l.length:Int)))),(76,(.d (I l.length))),(75,(.d (.l (K1 10) (l.map AEntry.dv) t))),(18,(.d (I (qat (qeZ id frm upto) 0 0 l)))),(16,(.d (I vol))),(14,(.d (I low))),(13,(.d (I now))),(12,(.d (I frm))),(10,(.p 0 0 0)),(3,(.d (I amt))),(2,(.d (I upto))),(1,(.d (I id)))] [some (.box (K1 7) (.d a.dv))]:=by
  rw[qbY l (fun i (b:Int)=>⟨[(77,(.d (I (i:Int)))),(76,(.d (I l.length))),(75,(.d (.l (K1 10) (l.map AEntry.dv) t))),(18,(.d (I b))),(16,(.d (I vol))),(14,(.d (I low))),(13,(.d (I now))),(12,(.d (I frm))),(10,(.p 0 0 0)),(3,(.d (I amt))),(2,(.d (I upto))),(1,(.d (I id)))],[some (.box (K1 7) (.d a.dv))]⟩) (fun _ _=>True) (fun i b x c=>c (qeZ id frm upto i b x)) (fun b=>k (.exit 1) [(78,.d (.b false)),(77,(.d (I (l.length:Int)))),(76,(.d (I l.length))),(75,(.d (.l (K1 10) (l.map AEntry.dv) t))),(18,(.d (I b))),(16,(.d (I vol))),(14,(.d (I low))),(13,(.d (I now))),(12,(.d (I frm))),(10,(.p 0 0 0)),(3,(.d (I amt))),(2,(.d (I upto))),(1,(.d (I id)))] [some (.box (K1 7) (.d a.dv))]) ?_ ?_ h0 trivial]
  · rw[qf8 (qeZ id frm upto) _ _ (fun _ _ _ _=>rfl)]
  · intro B _ b _
    simp
  · intro B _ i b hi _ c hc
    have hm:=mxl
    have h1:(i:Int)<l.length:=by omega
    have h3:=wr1 (i:=i) (by omega)
    have hl:l[i].Legs.l.length≤maxLen:=((ho _ (zzs hi)).2.2.2.2.2.2.2.2.1).1
    have hv:=qJN T hT l[i] id hl
    obtain⟨q,hq⟩ : ∃q,tch id l[i]=q:=⟨_,rfl⟩;rw[hq] at hv;simp[h1,hi];repeat' (refine qaM (fun h => ?_) (fun h => ?_)<;>(try simp at h)<;>(try simp[h,h3,hv]))
    all_goals first
      | (have e:(qeZ id frm upto) i b l[i]=w64 (b+1):=by
           simp[qeZ, *];try (intros;omega)
         rw[e];exact hc _ _ _ trivial (by simp[gc,Fr.keep,qaf,qae,qad,PV.refs,qah,gcH,qaj,Obj.refs,PV.ren,Obj.ren,Heap.obj,Fr.ren,gh,zzd,w64];try rfl))
      | (have e:(qeZ id frm upto) i b l[i]=b:=by
           simp[qeZ, *];try (intros;omega)
         rw[e];exact hc _ _ _ trivial (by simp[gc,Fr.keep,qaf,qae,qad,PV.refs,qah,gcH,qaj,Obj.refs,PV.ren,Obj.ren,Heap.obj,Fr.ren,gh,zzd];try rfl))
theorem qBE (T:Tab) (hT:HV T) (l:List AEntry) (t:Bool) (id frm upto:Int) (hn:l.length≤maxLen) (ho : ∀e∈l,e.ok) {k:KC (PV×Bool)} {fr:Fr} {H:Heap} (h0:gc [0,1,2,3,9,10] 0 ⟨fr,H⟩=⟨[(10,(.d (I (0:Int)))),(9,(.d (I 0))),(3,(.d (I upto))),(2,(.d (I frm))),(1,(.d (I id))),(0,(.d (.l (K1 10) (l.map AEntry.dv) t)))],[]⟩) :
    kC T.env 0 fr H (.h (.loop [0,1,2,3,9,10] qow,k))=k (.exit 0) [(14,.d (.b false)),(10,(.d (I (l.length:Int)))),(9,(.d (I (qat (qeZ id frm upto) 0 0 l)))),(3,(.d (I upto))),(2,(.d (I frm))),(1,(.d (I id))),(0,(.d (.l (K1 10) (l.map AEntry.dv) t)))] []:=by
  rw[qbY l (fun i (b:Int)=>⟨[(10,(.d (I (i:Int)))),(9,(.d (I b))),(3,(.d (I upto))),(2,(.d (I frm))),(1,(.d (I id))),(0,(.d (.l (K1 10) (l.map AEntry.dv) t)))],[]⟩) (fun _ _=>True) (fun i b x c=>c (qeZ id frm upto i b x)) (fun b=>k (.exit 0) [(14,.d (.b false)),(10,(.d (I (l.length:Int)))),(9,(.d (I b))),(3,(.d (I upto))),(2,(.d (I frm))),(1,(.d (I id))),(0,(.d (.l (K1 10) (l.map AEntry.dv) t)))] []) ?_ ?_ h0 trivial]
  · rw[qf8 (qeZ id frm upto) _ _ (fun _ _ _ _=>rfl)]
  · intro B _ b _
    simp
  · intro B _ i b hi _ c hc
    have hm:=mxl
    have h1:(i:Int)<l.length:=by omega
    have h3:=wr1 (i:=i) (by omega)
    have hl:l[i].Legs.l.length≤maxLen:=((ho _ (zzs hi)).2.2.2.2.2.2.2.2.1).1
    have hv:=qIi T hT l[i] id hl
    obtain⟨q,hq⟩ : ∃q,tch id l[i]=q:=⟨_,rfl⟩;rw[hq] at hv;simp[h1,hi];repeat' (refine qaM (fun h => ?_) (fun h => ?_)<;>(try simp at h)<;>(try simp[h,h1,hi,h3,hv]))
    all_goals first
      | (have e:(qeZ id frm upto) i b l[i]=w64 (b+1):=by
           simp[qeZ, *];try (intros;omega)
         rw[e];exact hc _ _ _ trivial (by simp[gc,Fr.keep,qaf,qae,qad,PV.refs,gcH,PV.ren,Obj.ren,Heap.obj,Fr.ren,gh,w64];try rfl))
      | (have e:(qeZ id frm upto) i b l[i]=b:=by
           simp[qeZ, *];try (intros;omega)
         rw[e];exact hc _ _ _ trivial (by simp[gc,Fr.keep,qaf,qae,qad,PV.refs,gcH,PV.ren,Obj.ren,Heap.obj,Fr.ren,gh];try rfl))
theorem qId (T:Tab) (hT:HV T) (l:List AEntry) (t:Bool) (id frm upto:Int) (hn:l.length≤maxLen) (ho : ∀e∈l,e.ok):T.val 1039 [.l (K1 10) (l.map AEntry.dv) t,I id,I frm,I upto]=some (.d (I (qhH l id frm upto)),false):=by
  rw[qab T (hT 1039 F1039 rfl) rfl];simp[F1039,Fr.ofArgs];refine (qBE T hT l t id frm upto hn ho (by simp[gc,Fr.keep,qaf,qae,qad,PV.refs,gcH,PV.ren,Obj.ren,Heap.obj,Fr.ren,gh])).trans ?_
  simp[qhH]
def qgp:List Int→Int
  | []=>0
  |x::r=>r.foldl min x
theorem quc : ∀(r:List Int) (i:Nat) (b:Int),qat (fun _ b x=>min b x) i b r=r.foldl min b
  | [],_,_=>rfl
  |x::r,i,b=>by rw[qat,quc r,List.foldl_cons]
theorem qCp (T:Tab) (x:Int) (l:List Int) (t:Bool) (hn:l.length<maxLen) {k:KC (PV×Bool)} {fr:Fr} {H:Heap} (h0:gc [0,3,4] 0 ⟨fr,H⟩=⟨[(4,.d (I 1)),(3,.d (I x)),(0,.d (.l K0 (I x::l.map I) t))],[]⟩) :
    kC T.env 0 fr H (.h (.loop [0,3,4] qoZ,k))=k (.exit 0) [(15,.d (.b false)),(4,.d (I (l.length+1))),(3,.d (I (l.foldl min x))),(0,.d (.l K0 (I x::l.map I) t))] []:=by
  have hm:=mxl
  rw[qbY l (fun i (b:Int)=>⟨[(4,.d (I ((i:Int)+1))),(3,.d (I b)),(0,.d (.l K0 (I x::l.map I) t))],[]⟩) (fun _ _=>True) (fun i b y c=>c (min b y)) (fun b=>k (.exit 0) [(15,.d (.b false)),(4,.d (I (l.length+1))),(3,.d (I b)),(0,.d (.l K0 (I x::l.map I) t))] []) ?_ ?_ (by simpa using h0) trivial]
  · rw[qf8 (fun _ b y=>min b y) _ _ (fun _ _ _ _=>rfl),quc]
  · intro B _ b _
    simp
  · intro B _ i b hi _ c hc
    have h1:(i:Int)+1<l.length+1:=by omega
    have h3:IntKind.i64.wrap ((i:Int)+1+1)=(i:Int)+1+1:=wrI (by omega) (by omega)
    have h4:(0:Int)≤(i:Int)+1:=by omega
    have h5:((i:Int)+1).toNat=i+1:=by omega
    simp[h1,hi,h3,h4,↓qpo];exact hc _ _ _ trivial (by simp[gc,Fr.keep,qaf,qae,qad,PV.refs,gcH,PV.ren,Obj.ren,Heap.obj,Fr.ren,gh])
theorem qJK (T:Tab) (hT:HV T) (x:Int) (l:List Int) (t:Bool) (hn:l.length<maxLen):T.val 881 [.l K0 ((x::l).map I) t]=some (.d (I (qgp (x::l))),false):=by
  rw[qab T (hT 881 F881 rfl) rfl];have h1 : ¬((l.length:Int)+1<1):=by omega
  have h2:(0:Int)<(l.length:Int)+1:=by omega
  have lp:=fun k fr H => @qCp T x l t hn k fr H
  simp[F881,Fr.ofArgs,h1,h2];refine (lp _ _ _ (by simp[gc,Fr.keep,qaf,qae,qad,PV.refs,gcH,PV.ren,Obj.ren,Heap.obj,Fr.ren,gh])).trans ?_
  simp[qgp]
def qgk (i:Nat) (b x:Int):Int:=if i=0∨x<b then x else b
theorem qub : ∀(r:List Int) (i:Nat) (b:Int),0<i→qat qgk i b r=r.foldl min b
  | [],_,_,_=>rfl
  |x::r,i,b,h=>by
    rw[qat,qub r (i+1) _ (by omega),List.foldl_cons]
    congr 1
    unfold qgk;split<;>omega
theorem qBv (l:List Int):qat qgk 0 0 l=qgp l:=by
  cases l with
  |nil=>rfl
  |cons x r=>rw[qat,qub r 1 _ (by omega)];simp[qgk,qgp]
theorem qBB (T:Tab) (l:List Int) (t:Bool) (hn:l.length≤maxLen) {k:KC (PV×Bool)} {fr:Fr} {H:Heap} (h0:gc [0,3,4] 0 ⟨fr,H⟩=⟨[(4,(.d (I (0:Int)))),(3,(.d (I 0))),(0,(.d (.l K0 (l.map I) t)))],[]⟩) :
    kC T.env 0 fr H (.h (.loop [0,3,4] qmp,k))=k (.exit 0) [(8,.d (.b false)),(4,(.d (I (l.length:Int)))),(3,(.d (I (qat (qgk) 0 0 l)))),(0,(.d (.l K0 (l.map I) t)))] []:=by
  rw[qbY l (fun i (b:Int)=>⟨[(4,(.d (I (i:Int)))),(3,(.d (I b))),(0,(.d (.l K0 (l.map I) t)))],[]⟩) (fun _ _=>True) (fun i b x c=>c (qgk i b x)) (fun b=>k (.exit 0) [(8,.d (.b false)),(4,(.d (I (l.length:Int)))),(3,(.d (I b))),(0,(.d (.l K0 (l.map I) t)))] []) ?_ ?_ h0 trivial]
  · rw[qf8 (qgk) _ _ (fun _ _ _ _=>rfl)]
  · intro B _ b _
    simp
  · intro B _ i b hi _ c hc
    have hm:=mxl
    have h1:(i:Int)<l.length:=by omega
    have h3:=wr1 (i:=i) (by omega)
    rcases Nat.eq_zero_or_pos i with rfl|h0i
    · have e:qgk 0 b l[0]=l[0]:=by simp[qgk]
      rw[e];have w1:IntKind.i64.wrap 1=1:=rfl
      simp[hi,w1];exact hc _ _ _ trivial (by simp[gc,Fr.keep,qaf,qae,qad,PV.refs,gcH,PV.ren,Obj.ren,Heap.obj,Fr.ren,gh])
    · have hne:((i:Int)==0)=false:=by simp;omega
      have hne2:i≠0:=by omega
      simp[h1,hi,hne];repeat' (refine qaM (fun h => ?_) (fun h => ?_)<;>(try simp at h)<;>(try simp[h1,hi,h3]))
      all_goals first
        | (have e:qgk i b l[i]=l[i]:=by
             simp[qgk, *];done
           rw[e];exact hc _ _ _ trivial (by simp[gc,Fr.keep,qaf,qae,qad,PV.refs,gcH,PV.ren,Obj.ren,Heap.obj,Fr.ren,gh]))
        | (have e:qgk i b l[i]=b:=by
             simp[qgk, *];try (intros;omega)
           rw[e];exact hc _ _ _ trivial (by simp[gc,Fr.keep,qaf,qae,qad,PV.refs,gcH,PV.ren,Obj.ren,Heap.obj,Fr.ren,gh]))
theorem qIa (T:Tab) (hT:HV T) (l:List Int) (t:Bool) (hn:l.length≤maxLen):T.val 1036 [.l K0 (l.map I) t]=some (.d (I (qgp l)),false):=by
  rw[qab T (hT 1036 F1036 rfl) rfl,←qBv];have lp:=fun k fr H => @qBB T l t hn k fr H
  simp[F1036,Fr.ofArgs];refine (lp _ _ _ (by simp[gc,Fr.keep,qaf,qae,qad,PV.refs,gcH,PV.ren,Obj.ren,Heap.obj,Fr.ren,gh])).trans ?_
  simp
end Go.Sim
end
section
namespace Go.Sim
set_option maxRecDepth 10000
set_option maxHeartbeats 4000000
structure MvY (Y:Nat→List PV→Heap→Option (PV×Heap)) (σ:Type) (HS:σ→Heap) (m o pj pa:Nat) (j:List AEntry) (t:Bool) (acc:Int) (P:σ→Prop) (f:σ→AEntry→ALeg→σ):Prop where
 len : ∀s,(HS s).length=m
 cl : ∀s,Cl (HS s)
 oj : ∀s J,Heap.obj (HS s++J) pj=some (.box K0 (.d (.l (K1 10) (j.map AEntry.dv) t)))
 oa : ∀s J,Heap.obj (HS s++J) pa=some (.box K0 (.d (I acc)))
 lo:o<m∧pj<m∧pa<m
 hp : ∀s e x,P s→e∈j→x∈e.Legs.l→P (f s e x)
 y : ∀s e x,P s→e∈j→x∈e.Legs.l→x.Account=acc→Y o [.d e.dv,.d (I x.Amount)] (HS s++[some (.box (K1 10) (.d e.dv)),some (.box (K1 3) (.d x.dv))])=some (.d (.b true),HS (f s e x)++[some (.box (K1 10) (.d e.dv)),some (.box (K1 3) (.d x.dv))])
def mvL {σ:Type} (acc:Int) (f:σ→AEntry→ALeg→σ) (e:AEntry) (_:Nat) (s:σ) (x:ALeg):σ:=if x.Account=acc then f s e x else s
def mvE {σ:Type} (acc:Int) (f:σ→AEntry→ALeg→σ) (_:Nat) (s:σ) (e:AEntry):σ:=qat (mvL acc f e) 0 s e.Legs.l
section
variable {Y : Nat → List PV → Heap → Option (PV × Heap)} {σ : Type} {HS : σ → Heap} {m o pj pa : Nat} {j : List AEntry} {t : Bool} {acc : Int} {P : σ → Prop} {f : σ → AEntry → ALeg → σ}
theorem qB8 (T:Tab) (h:MvY Y σ HS m o pj pa j t acc P f) (e:AEntry) (he:e∈j) (hn:e.Legs.l.length≤maxLen) (oi:Nat) (s0:σ) (hs0:P s0) {k:KC (PV×Heap)} {fr:Fr} {H:Heap}
  (h0:gc [0,2,5,8,9,10,15,16,17] m ⟨fr,H⟩=⟨[(17,.d (I 0)),(16,.d (I e.Legs.l.length)),(15,.d (.l (K1 3) (e.Legs.l.map ALeg.dv) e.Legs.t)),(10,.d (I oi)),(9,.d (I j.length)),(8,.d (.l (K1 10) (j.map AEntry.dv) t)),(5,.p m 0 0),(2,.p pa 0 0),(0,.h o)],HS s0++[some (.box (K1 10) (.d e.dv))]⟩) :
  kC (T.envY Y) m fr H (.h (.loop [0,2,5,8,9,10,15,16,17] qoR,k))=k (.exit 2) [(18,.d (.b false)),(17,.d (I e.Legs.l.length)),(16,.d (I e.Legs.l.length)),(15,.d (.l (K1 3) (e.Legs.l.map ALeg.dv) e.Legs.t)),(10,.d (I oi)),(9,.d (I j.length)),(8,.d (.l (K1 10) (j.map AEntry.dv) t)),(5,.p m 0 0),(2,.p pa 0 0),(0,.h o)] (HS (qat (mvL acc f e) 0 s0 e.Legs.l)++[some (.box (K1 10) (.d e.dv))]):=by
 have hm:=mxl
 rw[qbY e.Legs.l (fun i (s:σ)=>⟨[(17,.d (I i)),(16,.d (I e.Legs.l.length)),(15,.d (.l (K1 3) (e.Legs.l.map ALeg.dv) e.Legs.t)),(10,.d (I oi)),(9,.d (I j.length)),(8,.d (.l (K1 10) (j.map AEntry.dv) t)),(5,.p m 0 0),(2,.p pa 0 0),(0,.h o)],HS s++[some (.box (K1 10) (.d e.dv))]⟩) (fun _ s=>P s) (fun i s x c=>c (mvL acc f e i s x)) (fun s=>k (.exit 2) [(18,.d (.b false)),(17,.d (I e.Legs.l.length)),(16,.d (I e.Legs.l.length)),(15,.d (.l (K1 3) (e.Legs.l.map ALeg.dv) e.Legs.t)),(10,.d (I oi)),(9,.d (I j.length)),(8,.d (.l (K1 10) (j.map AEntry.dv) t)),(5,.p m 0 0),(2,.p pa 0 0),(0,.h o)] (HS s++[some (.box (K1 10) (.d e.dv))])) ?_ ?_ h0 hs0]
 ·rw[qf8 (mvL acc f e) _ _ (fun _ _ _ _=>rfl)]
 ·intro B _ s _;simp
 ·intro B _ i s hi hs c hc;have h1:(i:Int)<e.Legs.l.length:=by omega
  have h3:=wr1 (i:=i) (by omega)
  have hx:e.Legs.l[i]∈e.Legs.l:=zzs hi
  have hl:=h.len s
  have hoa:=h.oa s
  have ho0 : ∀J,Heap.obj (HS s++J) m=Heap.obj J 0:=fun J=>by rw[←hl];exact qkm _ _
  have ho1 : ∀J,Heap.obj (HS s++J) (m+1)=Heap.obj J 1:=fun J=>by rw[←hl];exact qlW _ _ 1
  have hp1 : ∀J v,Heap.put (HS s++J) (m+1) v=HS s++Heap.put J 1 v:=fun J v=>by rw[←hl];exact ql2 _ _ _ 1
  simp[h1,hi,hl,hoa,ho1,hp1];refine qaM (fun g => ?_) (fun g => ?_)
  ·have g':e.Legs.l[i].Account=acc:=by simpa using g
   have hy:=h.y s e e.Legs.l[i] hs he hx g'
   have hs':=h.hp s e e.Legs.l[i] hs he hx
   have hl':=h.len (f s e e.Legs.l[i])
   simp[g,h3,hl,ho0,ho1,hp1,hy,↓qyL,qzG];have e1:mvL acc f e i s e.Legs.l[i]=f s e e.Legs.l[i]:=by simp[mvL,g']
   rw[e1];refine hc _ _ _ hs' ?_;rw[←hl',qp6 _ (h.cl _) rfl (by simp[Fr.keep,qae,gh,PV.refs]) (by simp[Fr.keep,qae,gh,PV.refs,hl'];have:=h.lo;omega) (by simp[Fr.keep,qae,gh,PV.refs,hl'])]
   simp[Fr.keep,gh,hl']
  ·have g' : ¬e.Legs.l[i].Account=acc:=by simpa using g
   simp[g,h3,hl,hp1];have e1:mvL acc f e i s e.Legs.l[i]=s:=by simp[mvL,g']
   rw[e1];refine hc _ _ _ hs ?_;rw[←hl,qp6 _ (h.cl _) rfl (by simp[Fr.keep,qae,gh,PV.refs]) (by simp[Fr.keep,qae,gh,PV.refs,hl];have:=h.lo;omega) (by simp[Fr.keep,qae,gh,PV.refs,hl])]
   simp[Fr.keep,gh,hl]
theorem qC1 (h:MvY Y σ HS m o pj pa j t acc P f) {e:AEntry} (he:e∈j) {s:σ} (hs:P s):P (qat (mvL acc f e) 0 s e.Legs.l):=by
 have key : ∀(l:List ALeg) (i:Nat) (s:σ),P s→(∀x∈l,x∈e.Legs.l)→P (qat (mvL acc f e) i s l):=by
  intro l;induction l with
  |nil=>intro i s hs _;exact hs
  |cons x l ih =>
   intro i s hs hl;rw[qat];refine ih _ _ ?_ fun y hy=>hl y (zzi _ hy)
   unfold mvL;split
   ·exact h.hp s e x hs he (hl x (zzr ..))
   ·exact hs
 exact key _ _ _ hs fun _ hx=>hx
theorem qB9 (T:Tab) (h:MvY Y σ HS m o pj pa j t acc P f) (hn:j.length≤maxLen) (ho : ∀e∈j,e.Legs.l.length≤maxLen) (s0:σ) (hs0:P s0) {k:KC (PV×Heap)} {fr:Fr} {H:Heap}
  (h0:gc [0,2,8,9,10] m ⟨fr,H⟩=⟨[(10,.d (I 0)),(9,.d (I j.length)),(8,.d (.l (K1 10) (j.map AEntry.dv) t)),(2,.p pa 0 0),(0,.h o)],HS s0⟩) :
  kC (T.envY Y) m fr H (.h (.loop [0,2,8,9,10] qmy,k))=k (.exit 0) [(11,.d (.b false)),(10,.d (I j.length)),(9,.d (I j.length)),(8,.d (.l (K1 10) (j.map AEntry.dv) t)),(2,.p pa 0 0),(0,.h o)] (HS (qat (mvE acc f) 0 s0 j)):=by
 have hm:=mxl
 rw[qbY j (fun i (s:σ)=>⟨[(10,.d (I i)),(9,.d (I j.length)),(8,.d (.l (K1 10) (j.map AEntry.dv) t)),(2,.p pa 0 0),(0,.h o)],HS s⟩) (fun _ s=>P s) (fun i s x c=>c (mvE acc f i s x)) (fun s=>k (.exit 0) [(11,.d (.b false)),(10,.d (I j.length)),(9,.d (I j.length)),(8,.d (.l (K1 10) (j.map AEntry.dv) t)),(2,.p pa 0 0),(0,.h o)] (HS s)) ?_ ?_ h0 hs0]
 ·rw[qf8 (mvE acc f) _ _ (fun _ _ _ _=>rfl)]
 ·intro B _ s _;simp
 ·intro B _ i s hi hs c hc;have h1:(i:Int)<j.length:=by omega
  have h3:=wr1 (i:=i) (by omega)
  have he:j[i]∈j:=zzs hi
  have hl:=h.len s
  have ho0 : ∀J,Heap.obj (HS s++J) m=Heap.obj J 0:=fun J=>by rw[←hl];exact qkm _ _
  have hp0 : ∀J v,Heap.put (HS s++J) m v=HS s++Heap.put J 0 v:=fun J v=>by rw[←hl];exact qnQ _ _ _
  have lp:=fun k fr H => @qB8 Y σ HS m o pj pa j t acc P f T h j[i] he (ho _ he) i s hs k fr H
  simp[h1,hi,hl,ho0,hp0];rw[lp]
  ·simp[h3];have hs':=qC1 h he hs
   have hl':=h.len (qat (mvL acc f j[i]) 0 s j[i].Legs.l)
   refine (hc _ _ _ hs' ?_).trans rfl;rw[←hl',qur _ (h.cl _) (by simp[Fr.keep,qae,gh,PV.refs,hl'];have:=h.lo;omega)]
   simp[Fr.keep,gh]
  ·rw[←hl,qp6 _ (h.cl _) rfl (by simp[Fr.keep,qae,gh,PV.refs]) (by simp[Fr.keep,qae,gh,PV.refs,hl];have:=h.lo;omega) (by simp[Fr.keep,qae,gh,PV.refs,hl])]
   simp[Fr.keep,gh,hl]
theorem qqj (T:Tab) (hT:HU T) (h:MvY Y σ HS m o pj pa j t acc P f) (hn:j.length≤maxLen) (ho : ∀e∈j,e.Legs.l.length≤maxLen) (s0:σ) (hs0:P s0) :
  T.it Y 59 [.h o,.p pj 0 0,.p pa 0 0] (HS s0)=some (.t [],HS (qat (mvE acc f) 0 s0 j)):=by
 rw[qAn T (hT 59 F59 rfl) Y rfl];have lp:=fun k fr H => @qB9 Y σ HS m o pj pa j t acc P f T h hn ho s0 hs0 k fr H
 have hl:=h.len s0
 have hoj:Heap.obj (HS s0) pj=some (.box K0 (.d (.l (K1 10) (j.map AEntry.dv) t))):=by have:=h.oj s0 [];rwa [List.append_nil] at this
 simp[F59,Fr.ofArgs,hl,hoj];rw[lp]
 ·simp[qzP];rw[hl,←h.len (qat (mvE acc f) 0 s0 j)];exact qj9 (h.cl _) (by simp[qfU,PV.refs,PV.refsL])
 ·rw[←hl,qlF _ (h.cl _) (by simp[Fr.keep,qae,gh,PV.refs,hl];have:=h.lo;omega)]
  simp[Fr.keep,gh]
end
end Go.Sim
end
section
namespace Go.Sim
set_option maxRecDepth 10000
set_option maxHeartbeats 4000000
theorem qG8 (T:Tab) (hT:HU T) (j:List AEntry) (t:Bool) (acc:Int) (k0:K) (v0:DV):T.ref 50 [.d (.l (K1 10) (j.map AEntry.dv) t),.d (I acc)] [some (.box k0 (.d v0))]=some (.f 59 [.p 1 0 0,.p 2 0 0],[some (.box k0 (.d v0)),some (.box K0 (.d (.l (K1 10) (j.map AEntry.dv) t))),some (.box K0 (.d (I acc)))]):=by
 rw[qg3 T (hT 50 F50 rfl) rfl];simp[F50,Fr.ofArgs,qgl,gcV,qaf,qad,qaj,Obj.refs,PV.refs,PV.refsL,qah,gcH,PV.ren,PV.renL,Obj.ren,Heap.obj,zzd]
def qkd (j:List AEntry) (t:Bool) (acc:Int) (s:Int):Heap:=[some (.box K0 (.d (I s))),some (.box K0 (.d (.l (K1 10) (j.map AEntry.dv) t))),some (.box K0 (.d (I acc))),some (.lp 0 none),some .df]
def fOf (s:Int) (_:AEntry) (x:ALeg):Int:=w64 (s-x.Amount)
def ofP (j:List AEntry) (acc:Int):Int:=qat (mvE acc fOf) 0 0 j
theorem qC3 (T:Tab) (_hT:HU T) (j:List AEntry) (t:Bool) (acc:Int):MvY (qiv T.env qoV qoW [(5,.p 0 0 0)] 3 [11,12]) Int (qkd j t acc) 5 3 1 2 j t acc (fun _=>True) fOf where
 len _:=rfl
 cl _:=by intro r h;simp[qkd,qad,qaj,Obj.refs,PV.refs] at h
 oj _ _:=rfl
 oa _ _:=rfl
 lo:=⟨by decide,by decide,by decide⟩
 hp _ _ _ _ _ _:=trivial
 y s e x _ _ _ _:=by
  rw[qsc rfl rfl];simp[qoV,qoW,qkd,qgt];exact qj9 (H:=qkd j t acc (fOf s e x)++[some (.box (K1 10) (.d e.dv)),some (.box (K1 3) (.d x.dv))]) (by intro r h;simp[qkd,qad,qaj,Obj.refs,PV.refs] at h) (v:=.d (.b true)) (by simp[PV.refs])
theorem qJv (T:Tab) (hT:HU T) (l:List AEntry) (t:Bool) (acc:Int) (hn:l.length≤maxLen) (ho : ∀e∈l,e.Legs.l.length≤maxLen):T.val 715 [.l (K1 10) (l.map AEntry.dv) t,I acc]=some (.d (I (ofP l acc)),false):=by
 rw[qab T (hT 715 qk1 rfl) rfl];have e:=qG8 T hT l t acc K0 (I 0)
 have e2:=qqj T hT (qC3 T hT l t acc) hn ho 0 trivial
 simp[qk1,Fr.ofArgs,e,↓qql,↓qsd,qpM,Fr.only];refine (congrArg (fun z=>bo z _) e2).trans ?_
 simp[qkt,qkd,fin,runG];rfl
theorem qiA (a b:Int):w64 (w64 a+b)=w64 (a+b):=by
 unfold w64;rw[IntKind.wrap_i64,IntKind.wrap_i64,IntKind.wrap_i64];omega
theorem qsF (a b:Int):w64 (a+w64 b)=w64 (a+b):=by rw[Int.add_comm,qiA,Int.add_comm]
theorem qkB (a:Int):w64 (w64 a)=w64 a:=by have:=qiA a 0;simpa using this
theorem qnE (acc s:Int) : ∀(l:List ALeg) (i:Nat) (d:Int),qat (qb5 acc) i (w64 (s+d)) l=w64 (s+qat (qb5 acc) i (w64 d) l)
 | [],i,d=>by simp only[qat];rw[qsF]
 |x::l,i,d=>by
  simp only[qat];by_cases h:(x.Account==acc)=true
  ·have e1:qb5 acc i (w64 (s+d)) x=w64 (s+(d-x.Amount)):=by
    simp only[qb5,h,if_true,Int.sub_eq_add_neg,qiA,Int.add_assoc]
   have e2:qb5 acc i (w64 d) x=w64 (d-x.Amount):=by
    simp only[qb5,h,if_true,Int.sub_eq_add_neg,qiA]
   rw[e1,e2,qnE acc s l (i+1)]
  ·have e1:qb5 acc i (w64 (s+d)) x=w64 (s+d):=by simp only[qb5,if_neg h]
   have e2:qb5 acc i (w64 d) x=w64 d:=by simp only[qb5,if_neg h]
   rw[e1,e2,qnE acc s l (i+1)]
theorem qvQ (acc:Int) (e:AEntry) : ∀(l:List ALeg) (i:Nat) (s:Int),qat (mvL acc fOf e) i s l=qat (qb5 acc) i s l
 | [],_,_=>rfl
 |x::l,i,s=>by
  have:mvL acc fOf e i s x=qb5 acc i s x:=by by_cases h:x.Account=acc<;>simp[mvL,qb5,fOf,h]
  rw[qat,qat,this,qvQ acc e l]
theorem qv5 (acc:Int) : ∀(l:List AEntry) (i:Nat) (n:Int),w64 n=n→qat (mvE acc fOf) i n l=qat (qhL acc) i n l
 | [],_,_,_=>rfl
 |e::l,i,n,h=>by
  have e1:mvE acc fOf i n e=qhL acc i n e:=by
   unfold mvE qhL qhk;rw[qvQ]
   have:=qnE acc n e.Legs.l 0 0
   rw[Int.add_zero,h,show w64 0=0 from rfl] at this
   exact this
  rw[qat,qat,e1];exact qv5 acc l (i+1) _ (qkB _)
theorem qDe (l:List AEntry) (acc:Int):ofP l acc=ofR l acc:=qv5 acc l 0 0 rfl
end Go.Sim
end
section
namespace Go.Sim
set_option maxRecDepth 10000
set_option maxHeartbeats 4000000
theorem qzl (l:List DV):DV.cells (.a l)=l:=rfl
end Go.Sim
end
section
namespace Go.Sim
set_option maxRecDepth 10000
set_option maxHeartbeats 4000000
theorem qG9 (T:Tab) (hT:HU T) (j:List AEntry) (t:Bool) (acc:Int) (k0 k1 k2 k3:K) (v0 v1 v2 v3:DV):T.ref 50 [.d (.l (K1 10) (j.map AEntry.dv) t),.d (I acc)] [some (.box k0 (.d v0)),some (.box k1 (.d v1)),some (.box k2 (.d v2)),some (.box k3 (.d v3))]=some (.f 59 [.p 4 0 0,.p 5 0 0],[some (.box k0 (.d v0)),some (.box k1 (.d v1)),some (.box k2 (.d v2)),some (.box k3 (.d v3)),some (.box K0 (.d (.l (K1 10) (j.map AEntry.dv) t))),some (.box K0 (.d (I acc)))]):=by
  rw[qg3 T (hT 50 F50 rfl) rfl];simp[F50,Fr.ofArgs,qgl,gcV,qaf,qad,qaj,Obj.refs,PV.refs,PV.refsL,qah,gcH,PV.ren,PV.renL,Obj.ren,Heap.obj,zzd]
abbrev DC:=Int×Int
def fTo (frm upto:Int) (s:DC) (e:AEntry) (x:ALeg):DC:=if e.Booked<frm∨upto<e.Booked then s else if 0<x.Amount then (w64 (s.1+x.Amount),s.2) else (s.1,w64 (s.2-x.Amount))
def qhf (frm upto:Int) (j:List AEntry) (t:Bool) (acc:Int) (s:DC):Heap:=[some (.box K0 (.d (I frm))),some (.box K0 (.d (I upto))),some (.box K0 (.d (I s.1))),some (.box K0 (.d (I s.2))),some (.box K0 (.d (.l (K1 10) (j.map AEntry.dv) t))),some (.box K0 (.d (I acc))),some (.lp 0 none),some .df]
theorem qC4 (T:Tab) (_hT:HU T) (frm upto:Int) (j:List AEntry) (t:Bool) (acc:Int):MvY (qiv T.env qo0 qo1 [(11,.p 3 0 0),(10,.p 2 0 0),(7,.p 1 0 0),(6,.p 0 0 0)] 6 [17,18]) DC (qhf frm upto j t acc) 8 6 4 5 j t acc (fun _=>True) (fTo frm upto) where
  len _:=rfl
  cl _:=by intro r h;simp[qhf,qad,qaj,Obj.refs,PV.refs] at h
  oj _ _:=rfl
  oa _ _:=rfl
  lo:=⟨by decide,by decide,by decide⟩
  hp _ _ _ _ _ _:=trivial
  y s e x _ _ _ _:=by
    rw[qsc rfl rfl];simp[qo0,qo1,qhf,qgt];repeat' (refine qaM (fun h => ?_) (fun h => ?_)<;>(try simp at h)<;>(try simp[h]))
    all_goals first
      | (have ef:fTo frm upto s e x=s:=by rw[fTo,if_pos (by omega)]
         rw[ef];exact qj9 (H:=qhf frm upto j t acc s++[some (.box (K1 10) (.d e.dv)),some (.box (K1 3) (.d x.dv))]) (by intro r h;simp[qhf,qad,qaj,Obj.refs,PV.refs] at h) (v:=.d (.b true)) (by simp[PV.refs]))
      | (have ef:fTo frm upto s e x=(w64 (s.1+x.Amount),s.2):=by rw[fTo,if_neg (by omega),if_pos (by omega)]
         rw[ef];exact qj9 (H:=qhf frm upto j t acc (w64 (s.1+x.Amount),s.2)++[some (.box (K1 10) (.d e.dv)),some (.box (K1 3) (.d x.dv))]) (by intro r h;simp[qhf,qad,qaj,Obj.refs,PV.refs] at h) (v:=.d (.b true)) (by simp[PV.refs]))
      | (have ef:fTo frm upto s e x=(s.1,w64 (s.2-x.Amount)):=by rw[fTo,if_neg (by omega),if_neg (by omega)]
         rw[ef];exact qj9 (H:=qhf frm upto j t acc (s.1,w64 (s.2-x.Amount))++[some (.box (K1 10) (.d e.dv)),some (.box (K1 3) (.d x.dv))]) (by intro r h;simp[qhf,qad,qaj,Obj.refs,PV.refs] at h) (v:=.d (.b true)) (by simp[PV.refs]))
theorem qJL (T:Tab) (hT:HU T) (hV:HV T) (l:List AEntry) (t:Bool) (acc frm upto:Int) (hn:l.length≤maxLen) (ho : ∀e∈l,e.Legs.l.length≤maxLen):T.val 882 [.l (K1 10) (l.map AEntry.dv) t,I acc,I frm,I upto]=some (.t [.d (I (qat (mvE acc (fTo frm upto)) 0 (0,0) l).1),.d (I (qat (mvE acc (fTo frm upto)) 0 (0,0) l).2)],false):=by
  rw[qab T (hV 882 qk3 rfl) rfl];have e:=qG9 T hT l t acc K0 K0 K0 K0 (I frm) (I upto) (I 0) (I 0)
  have e2:=qqj T hT (qC4 T hT frm upto l t acc) hn ho (0,0) trivial
  simp[qk3,Fr.ofArgs,e,↓qql,↓qsd,qpM,Fr.only];refine (congrArg (fun z=>bo z _) e2).trans ?_
  simp[qkt,qhf,fin,runG,↓qbh,↓qbj,↓qbb,↓qa8,qbc,↓qba,↓qa9,qaT,writeS,touchS,qax,qaI,chg,qaZ,qaO,qaE,qaP,PV.refs,IOp.okD,Nat.testBit];try rfl
def fTr (acc:Int) (_:Nat) (s:DC) (x:ALeg):DC:=if x.Account=acc∧0<x.Amount then (w64 (s.1+x.Amount),s.2) else if x.Account=acc∧x.Amount<0 then (s.1,w64 (s.2-x.Amount)) else s
def fTR (acc frm upto:Int) (_:Nat) (s:DC) (e:AEntry):DC:=if e.Booked<frm∨upto<e.Booked then s else qat (fTr acc) 0 s e.Legs.l
def qht (j:List AEntry) (acc frm upto:Int):DC:=qat (fTR acc frm upto) 0 (0,0) j
theorem qBz (T:Tab) (l:List AEntry) (t:Bool) (acc frm upto:Int) (s0:DC) (oi:Nat) (hoi:oi<l.length) (hn:l[oi].Legs.l.length≤maxLen) {k:KC (PV×Bool)} {fr:Fr} {H:Heap} (h0:gc [0,1,2,3,10,11,12,13] 0 ⟨fr,H⟩=⟨[(13,(.d (I (0:Int)))),(12,(.d (I oi))),(11,(.d (I s0.2))),(10,(.d (I s0.1))),(3,(.d (I upto))),(2,(.d (I frm))),(1,(.d (I acc))),(0,(.d (.l (K1 10) (l.map AEntry.dv) t)))],[]⟩) :
    kC T.env 0 fr H (.h (.loop [0,1,2,3,10,11,12,13] qov,k))=k (.exit 2) [(44,.d (.b false)),(13,(.d (I (l[oi].Legs.l.length:Int)))),(12,(.d (I oi))),(11,(.d (I (qat (fTr acc) 0 s0 l[oi].Legs.l).2))),(10,(.d (I (qat (fTr acc) 0 s0 l[oi].Legs.l).1))),(3,(.d (I upto))),(2,(.d (I frm))),(1,(.d (I acc))),(0,(.d (.l (K1 10) (l.map AEntry.dv) t)))] []:=by
  rw[qbY l[oi].Legs.l (fun i (b:DC)=>⟨[(13,(.d (I (i:Int)))),(12,(.d (I oi))),(11,(.d (I b.2))),(10,(.d (I b.1))),(3,(.d (I upto))),(2,(.d (I frm))),(1,(.d (I acc))),(0,(.d (.l (K1 10) (l.map AEntry.dv) t)))],[]⟩) (fun _ _=>True) (fun i b x c=>c (fTr acc i b x)) (fun b=>k (.exit 2) [(44,.d (.b false)),(13,(.d (I (l[oi].Legs.l.length:Int)))),(12,(.d (I oi))),(11,(.d (I b.2))),(10,(.d (I b.1))),(3,(.d (I upto))),(2,(.d (I frm))),(1,(.d (I acc))),(0,(.d (.l (K1 10) (l.map AEntry.dv) t)))] []) ?_ ?_ (b0:=s0) h0 trivial]
  · rw[qf8 (fTr acc) _ _ (fun _ _ _ _=>rfl)]
  · intro B _ b _
    have hoi2:(oi:Int)<l.length:=by omega
    simp[hoi,hoi2]
  · intro B _ i b hi _ c hc
    have hm:=mxl
    have h1:(i:Int)<l[oi].Legs.l.length:=by omega
    have h3:=wr1 (i:=i) (by omega)
    have hoi2:(oi:Int)<l.length:=by omega
    simp[h1,hi,hoi,hoi2];repeat' (refine qaM (fun h => ?_) (fun h => ?_)<;>(try simp at h)<;>(try simp[h,h3]))
    all_goals first
      | (exfalso;omega)
      | (have e:fTr acc i b l[oi].Legs.l[i]=(w64 (b.1+l[oi].Legs.l[i].Amount),b.2):=by rw[fTr,if_pos (by omega)]
         rw[e];exact hc _ _ _ trivial (by simp[gc,Fr.keep,qaf,qae,qad,PV.refs,gcH,PV.ren,Obj.ren,Heap.obj,Fr.ren,gh,w64];try rfl))
      | (have e:fTr acc i b l[oi].Legs.l[i]=(b.1,w64 (b.2-l[oi].Legs.l[i].Amount)):=by rw[fTr,if_neg (by omega),if_pos (by omega)]
         rw[e];exact hc _ _ _ trivial (by simp[gc,Fr.keep,qaf,qae,qad,PV.refs,gcH,PV.ren,Obj.ren,Heap.obj,Fr.ren,gh,w64];try rfl))
      | (have e:fTr acc i b l[oi].Legs.l[i]=b:=by rw[fTr,if_neg (by omega),if_neg (by omega)]
         rw[e];exact hc _ _ _ trivial (by simp[gc,Fr.keep,qaf,qae,qad,PV.refs,gcH,PV.ren,Obj.ren,Heap.obj,Fr.ren,gh];try rfl))
theorem qBA (T:Tab) (l:List AEntry) (t:Bool) (acc frm upto:Int) (hn:l.length≤maxLen) (ho : ∀e∈l,e.Legs.l.length≤maxLen) {k:KC (PV×Bool)} {fr:Fr} {H:Heap} (h0:gc [0,1,2,3,10,11,12] 0 ⟨fr,H⟩=⟨[(12,(.d (I (0:Int)))),(11,(.d (I (0,0).2))),(10,(.d (I (0,0).1))),(3,(.d (I upto))),(2,(.d (I frm))),(1,(.d (I acc))),(0,(.d (.l (K1 10) (l.map AEntry.dv) t)))],[]⟩) :
    kC T.env 0 fr H (.h (.loop [0,1,2,3,10,11,12] qmo,k))=k (.exit 0) [(18,.d (.b false)),(12,(.d (I (l.length:Int)))),(11,(.d (I (qat (fTR acc frm upto) 0 (0,0) l).2))),(10,(.d (I (qat (fTR acc frm upto) 0 (0,0) l).1))),(3,(.d (I upto))),(2,(.d (I frm))),(1,(.d (I acc))),(0,(.d (.l (K1 10) (l.map AEntry.dv) t)))] []:=by
  rw[qbY l (fun i (b:DC)=>⟨[(12,(.d (I (i:Int)))),(11,(.d (I b.2))),(10,(.d (I b.1))),(3,(.d (I upto))),(2,(.d (I frm))),(1,(.d (I acc))),(0,(.d (.l (K1 10) (l.map AEntry.dv) t)))],[]⟩) (fun _ _=>True) (fun i b x c=>c (fTR acc frm upto i b x)) (fun b=>k (.exit 0) [(18,.d (.b false)),(12,(.d (I (l.length:Int)))),(11,(.d (I b.2))),(10,(.d (I b.1))),(3,(.d (I upto))),(2,(.d (I frm))),(1,(.d (I acc))),(0,(.d (.l (K1 10) (l.map AEntry.dv) t)))] []) ?_ ?_ (b0:=(0,0)) h0 trivial]
  · rw[qf8 (fTR acc frm upto) _ _ (fun _ _ _ _=>rfl)]
  · intro B _ b _
    simp
  · intro B _ i b hi _ c hc
    have hm:=mxl
    have h1:(i:Int)<l.length:=by omega
    have h3:=wr1 (i:=i) (by omega)
    simp[h1,hi];repeat' (refine qaM (fun h => ?_) (fun h => ?_)<;>(try simp at h)<;>(try simp[h,h1,hi,h3]))
    all_goals try
      ((have e:fTR acc frm upto i b l[i]=b:=by rw[fTR,if_pos (by omega)]
        rw[e];exact hc _ _ _ trivial (by simp[gc,Fr.keep,qaf,qae,qad,PV.refs,gcH,PV.ren,Obj.ren,Heap.obj,Fr.ren,gh];try rfl)))
    have e:fTR acc frm upto i b l[i]=qat (fTr acc) 0 b l[i].Legs.l:=by rw[fTR,if_neg (by omega)]
    rw[e];have lp:=fun k fr H => @qBz T l t acc frm upto b i hi (ho _ (zzs hi)) k fr H
    rw[lp]
    · simp[h3]
      exact hc _ _ _ trivial (by simp[gc,Fr.keep,qaf,qae,qad,PV.refs,gcH,PV.ren,Obj.ren,Heap.obj,Fr.ren,gh])
    · simp[gc,Fr.keep,qaf,qae,qad,PV.refs,gcH,PV.ren,Obj.ren,Heap.obj,Fr.ren,gh]
theorem qH9 (T:Tab) (hV:HV T) (l:List AEntry) (t:Bool) (acc frm upto:Int) (hn:l.length≤maxLen) (ho : ∀e∈l,e.Legs.l.length≤maxLen):T.val 1035 [.l (K1 10) (l.map AEntry.dv) t,I acc,I frm,I upto]=some (.t [.d (I (qht l acc frm upto).1),.d (I (qht l acc frm upto).2)],false):=by
  rw[qab T (hV 1035 F1035 rfl) rfl];have lp:=fun k fr H => @qBA T l t acc frm upto hn ho k fr H
  simp[F1035,Fr.ofArgs];refine (lp _ _ _ (by simp[gc,Fr.keep,qaf,qae,qad,PV.refs,gcH,PV.ren,Obj.ren,Heap.obj,Fr.ren,gh])).trans ?_
  simp[qht]
theorem qm9 {acc:Int} {i:Nat} {s:DC} {x:ALeg} (h1:w64 s.1=s.1) (h2:w64 s.2=s.2):w64 (fTr acc i s x).1=(fTr acc i s x).1∧w64 (fTr acc i s x).2=(fTr acc i s x).2:=by
  unfold fTr;split
  · exact⟨qkB _,h2⟩
  · split
    · exact⟨h1,qkB _⟩
    · exact⟨h1,h2⟩
theorem qud {acc:Int} : ∀(l:List ALeg) (i:Nat) (s:DC),w64 s.1=s.1→w64 s.2=s.2→w64 (qat (fTr acc) i s l).1=(qat (fTr acc) i s l).1∧w64 (qat (fTr acc) i s l).2=(qat (fTr acc) i s l).2
  | [],_,_,h1,h2=>⟨h1,h2⟩
  |x::l,i,s,h1,h2=>by rw[qat];exact qud l _ _ (qm9 h1 h2).1 (qm9 h1 h2).2
theorem qrE (acc frm upto:Int) (e:AEntry) : ∀(l:List ALeg) (i:Nat) (s:DC),w64 s.1=s.1→w64 s.2=s.2→qat (mvL acc (fTo frm upto) e) i s l=if e.Booked<frm∨upto<e.Booked then s else qat (fTr acc) i s l
  | [],_,s,_,_=>by simp[qat]
  |x::l,i,s,h1,h2=>by
    by_cases h:e.Booked<frm∨upto<e.Booked
    · have e1:mvL acc (fTo frm upto) e i s x=s:=by unfold mvL fTo;split<;>simp
      rw[qat,e1,qrE acc frm upto e l _ _ h1 h2,if_pos h,if_pos h]
    · have e1:mvL acc (fTo frm upto) e i s x=fTr acc i s x:=by
        unfold mvL fTo fTr;rw[if_neg h];by_cases ha:x.Account=acc
        · rw[if_pos ha]
          by_cases hp:0<x.Amount
          · rw[if_pos hp,if_pos ⟨ha,hp⟩]
          · rw[if_neg hp,if_neg (by omega)]
            by_cases hm:x.Amount<0
            · rw[if_pos ⟨ha,hm⟩]
            · rw[if_neg (by omega),show x.Amount=0 by omega,Int.sub_zero,h2]
        · rw[if_neg ha,if_neg (fun q=>ha q.1),if_neg (fun q=>ha q.1)]
      rw[qat,e1,qrE acc frm upto e l _ _ (qm9 h1 h2).1 (qm9 h1 h2).2,if_neg h,if_neg h,qat]
theorem qxm (acc frm upto:Int) : ∀(l:List AEntry) (i:Nat) (s:DC),w64 s.1=s.1→w64 s.2=s.2→qat (mvE acc (fTo frm upto)) i s l=qat (fTR acc frm upto) i s l
  | [],_,_,_,_=>rfl
  |e::l,i,s,h1,h2=>by
    have e1:mvE acc (fTo frm upto) i s e=fTR acc frm upto i s e:=by
      unfold mvE fTR;exact qrE acc frm upto e _ _ _ h1 h2
    have q:w64 (fTR acc frm upto i s e).1=(fTR acc frm upto i s e).1∧w64 (fTR acc frm upto i s e).2=(fTR acc frm upto i s e).2:=by
      unfold fTR;split
      · exact⟨h1,h2⟩
      · exact qud _ _ _ h1 h2
    rw[qat,qat,e1];exact qxm acc frm upto l (i+1) _ q.1 q.2
theorem qJM (T:Tab) (hT:HU T) (hV:HV T) (l:List AEntry) (t:Bool) (acc frm upto:Int) (hn:l.length≤maxLen) (ho : ∀e∈l,e.Legs.l.length≤maxLen):T.val 882 [.l (K1 10) (l.map AEntry.dv) t,I acc,I frm,I upto]=some (.t [.d (I (qht l acc frm upto).1),.d (I (qht l acc frm upto).2)],false):=by
  rw[qJL T hT hV l t acc frm upto hn ho,qxm acc frm upto l 0 (0,0) rfl rfl];rfl
end Go.Sim
end
section
namespace Go.Sim
set_option maxRecDepth 10000
set_option maxHeartbeats 4000000
def qbR (s:Int):List Int→List Int
 | []=>[]
 |x::r=>w64 (s+x)::qbR (w64 (s+x)) r
def qbO:Nat→Int→List Int→List Int
 | _,_,[]=>[]
 | 0,n,x::r=>w64 (x+n)::qbO 0 n r
 |k+1,n,x::r=>x::qbO k n r
theorem qnO : ∀(l:List Int) (s:Int),(qbR s l).length=l.length
 | [],_=>rfl
 |x::l,s=>by simp[qbR,qnO l]
theorem qmM : ∀(l:List Int) (k:Nat) (n:Int),(qbO k n l).length=l.length
 | [],_,_=>rfl
 |x::l,0,n=>by simp[qbO,qmM l]
 |x::l,k+1,n=>by simp[qbO,qmM l]
theorem qwr : ∀(l:List Int) (s a:Int),qbR (w64 (s+a)) l=qbO 0 a (qbR s l)
 | [],_,_=>rfl
 |x::l,s,a=>by
  have e:w64 (w64 (s+a)+x)=w64 (w64 (s+x)+a):=by rw[qiA,qiA];congr 1;omega
  simp only[qbR,qbO];rw[e,qwr l]
theorem qwq : ∀(l:List Int) (k:Nat) (s a:Int) (h:k<l.length),qbR s (l.set k (w64 (l[k]+a)))=qbO k a (qbR s l)
 | [],_,_,_,h=>absurd h (by simp)
 |x::l,0,s,a,_=>by
  have e:w64 (s+w64 (x+a))=w64 (w64 (s+x)+a):=by rw[qiA,qsF];congr 1;omega
  simp only[List.set_cons_zero,List.getElem_cons_zero,qbR,qbO];rw[e,qwr]
 |x::l,k+1,s,a,h=>by
  simp only[List.set_cons_succ,List.getElem_cons_succ,qbR,qbO];rw[qwq l k _ a (by simpa using h)]
theorem qo7 : ∀(l:List Int) (k:Nat) (a b:Int),qbO k a (qbO k b l)=qbO k (w64 (b+a)) l
 | [],_,_,_=>rfl
 |x::l,0,a,b=>by
  simp only[qbO];rw[qo7 l,qiA,qsF,Int.add_assoc]
 |x::l,k+1,a,b=>by simp only[qbO];rw[qo7 l]
theorem qmN : ∀(l:List Int) (k:Nat),(∀x∈l,w64 x=x)→qbO k 0 l=l
 | [],_,_=>rfl
 |x::l,0,h=>by simp only[qbO,Int.add_zero];rw[qmN l 0 fun y hy=>h y (zzi _ hy),h x (zzr ..)]
 |x::l,k+1,h=>by simp only[qbO];rw[qmN l k fun y hy=>h y (zzi _ hy)]
theorem qo9 : ∀(l:List Int) (k:Nat) (a:Int),(∀x∈l,w64 x=x)→∀x∈qbO k a l,w64 x=x
 | [],_,_,_,x,hx=>by simp[qbO] at hx
 |y::l,0,a,h,x,hx=>by
  simp only[qbO,List.mem_cons] at hx;rcases hx with rfl|hx
  ·exact qkB _
  ·exact qo9 l 0 a (fun z hz=>h z (zzi _ hz)) x hx
 |y::l,k+1,a,h,x,hx=>by
  simp only[qbO,List.mem_cons] at hx;rcases hx with rfl|hx
  ·exact h _ (zzr ..)
  ·exact qo9 l k a (fun z hz=>h z (zzi _ hz)) x hx
theorem qo8 : ∀(l:List Int) (k:Nat) (a:Int),l.length≤k→qbO k a l=l
 | [],_,_,_=>rfl
 |x::l,0,a,h=>by simp at h
 |x::l,k+1,a,h=>by simp only[qbO];rw[qo8 l k a (by simpa using h)]
theorem qws : ∀n,qbR 0 (List.replicate n 0)=List.replicate n 0
 | 0=>rfl
 |n+1=>by simp only[List.replicate_succ,qbR];rw[show w64 (0+0)=0 from rfl,qws n]
def qco:Nat→Nat→Int→List Int→List Int
 | _,_,_,[]=>[]
 | 0,0,_,l=>l
 | 0,i+1,n,x::r=>w64 (x+n)::qco 0 i n r
 |k+1,i,n,x::r=>x::qco k i n r
theorem qmO : ∀(l:List Int) (k:Nat) (n:Int),qco k 0 n l=l
 | [],k,n=>by cases k<;>rfl
 |x::l,0,n=>rfl
 |x::l,k+1,n=>by simp only[qco];rw[qmO l]
theorem qiT : ∀(l:List Int) (k i:Nat) (n:Int),(qco k i n l).length=l.length
 | [],k,i,n=>by cases k<;>cases i<;>rfl
 |x::l,0,0,n=>rfl
 |x::l,0,i+1,n=>by simp[qco,qiT l]
 |x::l,k+1,i,n=>by simp[qco,qiT l]
theorem qpb : ∀(l:List Int) (k i:Nat) (n:Int) (h:k+i<(qco k i n l).length),(qco k i n l).set (k+i) (w64 ((qco k i n l)[k+i]+n))=qco k (i+1) n l
 | [],k,i,n,h=>by rw[qiT] at h;simp at h
 |x::l,0,0,n,h=>by simp[qco,qmO]
 |x::l,0,i+1,n,h=>by
  have ih:=qpb l 0 i n (by rw[qiT] at h⊢;simp at h;omega)
  have e:0+(i+1)=(0+i)+1:=by omega
  simp only[qco,e,List.set_cons_succ,List.getElem_cons_succ];rw[ih]
 |x::l,k+1,i,n,h=>by
  have ih:=qpb l k i n (by rw[qiT] at h⊢;simp at h;omega)
  have e:k+1+i=(k+i)+1:=by omega
  simp only[qco,e,List.set_cons_succ,List.getElem_cons_succ];rw[ih]
theorem qpa : ∀(l:List Int) (k i:Nat) (n:Int),l.length=k+i→qco k i n l=qbO k n l
 | [],k,i,n,h=>by cases k<;>cases i<;>rfl
 |x::l,0,0,n,h=>by simp at h
 |x::l,0,i+1,n,h=>by simp only[qco,qbO];rw[qpa l 0 i n (by simp at h;omega)]
 |x::l,k+1,i,n,h=>by simp only[qco,qbO];rw[qpa l k i n (by simp at h;omega)]
def psP (s:Int):Nat→List Int→List Int
 | _,[]=>[]
 | 0,l=>l
 |i+1,x::r=>w64 (s+x)::psP (w64 (s+x)) i r
theorem qnN : ∀(l:List Int) (s:Int) (i:Nat),(psP s i l).length=l.length
 | [],s,i=>by cases i<;>rfl
 |x::l,s,0=>rfl
 |x::l,s,i+1=>by simp[psP,qnN l]
theorem qwn : ∀(l:List Int) (s:Int) (i:Nat),l.length≤i→psP s i l=qbR s l
 | [],s,i,_=>by cases i<;>rfl
 |x::l,s,0,h=>by simp at h
 |x::l,s,i+1,h=>by simp only[psP,qbR];rw[qwn l _ i (by simpa using h)]
theorem qwm (l:List Int) (s:Int):psP s 0 l=l:=by cases l<;>rfl
theorem qwo : ∀(l:List Int) (s:Int) (i:Nat) (h:i+1<(psP s (i+1) l).length),(psP s (i+1) l).set (i+1) (w64 ((psP s (i+1) l)[i+1]+(psP s (i+1) l)[i]))=psP s (i+2) l
 | [],s,i,h=>by simp[psP] at h
 | [x],s,i,h=>by simp[qnN] at h
 |x::y::l,s,0,h=>by
  simp only[psP,List.set_cons_succ,List.set_cons_zero,List.getElem_cons_succ,List.getElem_cons_zero,qwm];rw[show w64 (y+w64 (s+x))=w64 (w64 (s+x)+y) by rw[Int.add_comm]]
 |x::y::l,s,i+1,h=>by
  have ih:=qwo (y::l) (w64 (s+x)) i (by rw[qnN] at h⊢;simp at h⊢;omega)
  have a:psP s (i+1+1) (x::y::l)=w64 (s+x)::psP (w64 (s+x)) (i+1) (y::l):=rfl
  have b:psP s (i+1+2) (x::y::l)=w64 (s+x)::psP (w64 (s+x)) (i+2) (y::l):=rfl
  simp only[a,b,List.set_cons_succ,List.getElem_cons_succ];exact congrArg _ ih
theorem qGU (l:List Int) (h : ∀x∈l,w64 x=x):psP 0 1 l=l:=by
 cases l with
 |nil=>rfl
 |cons x r=>simp only[psP,Int.zero_add,qwm];rw[h x (zzr ..)]
end Go.Sim
end
section
namespace Go.Sim
set_option maxRecDepth 10000
set_option maxHeartbeats 4000000
def dOf (frm v:Int):Nat:=(max frm v-frm).toNat
def fDa (frm upto:Int) (es:List Int) (e:AEntry) (x:ALeg):List Int:=if e.Value≤upto then (match es[dOf frm e.Value]? with|some v=>es.set (dOf frm e.Value) (w64 (v-x.Amount))|none=>es) else es
theorem qpY {frm upto:Int} {es:List Int} {e:AEntry} {x:ALeg}:(fDa frm upto es e x).length=es.length:=by
 unfold fDa;split
 ·split
  ·simp
  ·rfl
 ·rfl
def qgE (frm upto:Int) (j:List AEntry) (t:Bool) (acc:Int) (n:Nat) (es:List Int):Heap:=[some (.box K0 (.d (I frm))),some (.box K0 (.d (I upto))),some (.sl K0 0 (es.map I)),some (.box K0 (.r 2 K0 0 n false)),some (.box K0 (.d (.l (K1 10) (j.map AEntry.dv) t))),some (.box K0 (.d (I acc))),some (.lp 0 none),some .df]
theorem qHa (T:Tab) (hT:HU T) (j:List AEntry) (t:Bool) (acc frm upto:Int) (n:Nat) (es:List DV):T.ref 50 [.d (.l (K1 10) (j.map AEntry.dv) t),.d (I acc)] [some (.box K0 (.d (I frm))),some (.box K0 (.d (I upto))),some (.sl K0 0 es),some (.box K0 (.r 2 K0 0 n false))]=some (.f 59 [.p 4 0 0,.p 5 0 0],[some (.box K0 (.d (I frm))),some (.box K0 (.d (I upto))),some (.sl K0 0 es),some (.box K0 (.r 2 K0 0 n false)),some (.box K0 (.d (.l (K1 10) (j.map AEntry.dv) t))),some (.box K0 (.d (I acc)))]):=by
 rw[qg3 T (hT 50 F50 rfl) rfl];simp[F50,Fr.ofArgs,qgl,gcV,qaf,qad,qaj,Obj.refs,PV.refs,PV.refsL,qah,gcH,PV.ren,PV.renL,Obj.ren,Heap.obj,zzd]
theorem qC0 (T:Tab) (_hT:HU T) (frm upto:Int) (j:List AEntry) (t:Bool) (acc:Int) (n:Nat) (h1:qbq frm=true) (h2:qbq upto=true) (h3:frm≤upto) (hn:(n:Int)=upto-frm+1):MvY (qiv T.env qmB qmC [(9,.p 3 0 0),(7,.p 1 0 0),(6,.p 0 0 0)] 6 [40,41]) (List Int) (qgE frm upto j t acc n) 8 6 4 5 j t acc (fun es=>es.length=n) (fDa frm upto) where
 len _:=rfl
 cl _:=by intro r h;simp[qgE,qad,qaj,Obj.refs,PV.refs] at h;subst h;simp[qgE]
 oj _ _:=rfl
 oa _ _:=rfl
 lo:=⟨by decide,by decide,by decide⟩
 hp _ _ _ h _ _:=by rw[qpY];exact h
 y es e x hl _ _ _:=by
  simp only[qbq,zzf,zzq] at h1 h2;rw[qsc rfl rfl];by_cases hv:e.Value≤upto
  ·obtain⟨m,hm⟩ : ∃m,max frm e.Value=m:=⟨_,rfl⟩;have hm1:frm≤m∧m≤upto:=by omega
   obtain⟨k,hk⟩ : ∃k,dOf frm e.Value=k:=⟨_,rfl⟩;have hk1:(k:Int)=m-frm:=by rw[←hk,dOf,hm];omega
   have w:IntKind.i64.wrap (m-frm)=(k:Int):=(wrI (by omega) (by omega)).trans hk1.symm
   have hk':(k:Int)<n:=by omega
   have hke:k<es.length:=by omega
   have hg:es[k]? = some es[k]:=zze hke
   have ef:fDa frm upto es e x=es.set k (w64 (es[k]-x.Amount)):=by rw[fDa,if_pos hv,hk,hg]
   rw[ef];simp[qmB,qmC,qgE,qgt,hv,w,↓qiV,-qch,↓qn2,↓qw3,↓qn1,↓qjr,hm,hl,hk',hg,↓qcr];have ms : ∀v,(es.map I).set k (I v)=(es.set k v).map I:=fun v=>List.map_set.symm
   rw[ms,ms];exact qi9 (H:=qgE frm upto j t acc n (es.set k (w64 (es[k]-x.Amount)))++[some (.box (K1 10) (.d e.dv)),some (.box (K1 3) (.d x.dv))]) (by intro r h;simp[qgE,qad,qaj,Obj.refs,PV.refs] at h;subst h;simp[qgE]) [some (.box (K1 10) (.d e.dv))] (.b true)
  ·have ef:fDa frm upto es e x=es:=by rw[fDa,if_neg hv]
   rw[ef];simp[qmB,qmC,qgE,qgt,hv];exact qi9 (H:=qgE frm upto j t acc n es++[some (.box (K1 10) (.d e.dv)),some (.box (K1 3) (.d x.dv))]) (by intro r h;simp[qgE,qad,qaj,Obj.refs,PV.refs] at h;subst h;simp[qgE]) [some (.box (K1 10) (.d e.dv))] (.b true)
theorem qCo (T:Tab) (es:List Int) (n:Nat) (hl:es.length=n) (hn:0<n) (hn2:n<5000) (hz : ∀x∈es,w64 x=x) {k:KC (PV×Bool)} {fr:Fr} {H:Heap} (h0:gc [9,12] 0 ⟨fr,H⟩=⟨[(100041,.g (.h 0)),(12,.d (I 1)),(9,.p 1 0 0)],[some .df,some (.box K0 (.r 2 K0 0 n false)),some (.sl K0 0 (es.map I))]⟩) :
  kC T.env 0 fr H (.h (.loop [9,12] qmD,k))=k (.exit 2) [(100041,.g (.h 0)),(61,.d (.b false)),(12,.d (I n)),(9,.p 1 0 0)] [some .df,some (.box K0 (.r 2 K0 0 n false)),some (.sl K0 0 ((qbR 0 es).map I))]:=by
 refine qgo (fun s:Nat×List Int=>⟨[(100041,.g (.h 0)),(12,.d (I s.1)),(9,.p 1 0 0)],[some .df,some (.box K0 (.r 2 K0 0 n false)),some (.sl K0 0 (s.2.map I))]⟩) (fun i=>(i+1,psP 0 (i+1) es)) (n-1) ?_ ?_ (by rw[h0,qGU _ hz];rfl)
 ·intro B _;have e:n-1+1=n:=by omega
  have e2:psP 0 n es=qbR 0 es:=qwn _ _ _ (by omega)
  have e3:(qbR 0 es).length=n:=by rw[qnO,hl]
  simp only[e,e2];simp[qmD,e3]
 ·intro B _ i hi c hc;have hlen:(psP 0 (i+1) es).length=n:=by rw[qnN,hl]
  have hst:=qwo es 0 i (by omega)
  obtain⟨fs,hfs⟩ : ∃fs,psP 0 (i+1) es=fs:=⟨_,rfl⟩;have g5':i+1<fs.length:=by rw[←hfs];omega
  have hst':psP 0 (i+1+1) es=fs.set (i+1) (w64 (fs[i+1]+fs[i])):=by subst hfs;exact hst.symm
  simp only[hfs] at hlen;clear hst
  simp only[hst'] at hc;simp only[hfs];have g1:(i:Int)+1<n:=by omega
  have g2:i+1<n:=by omega
  have g3:i<n:=by omega
  have g4:(i:Int)<n:=by omega
  have g5:i+1<fs.length:=by omega
  have g6:i<fs.length:=by omega
  have g7:(0:Int)≤(i:Int)+1:=by omega
  have g8:((i:Int)+1).toNat=i+1:=by omega
  have w1:IntKind.i64.wrap ((i:Int)+1-1)=i:=by rw[wrI (by omega) (by omega)];omega
  have w1':IntKind.i64.wrap (i:Int)=i:=wrI (by omega) (by omega)
  have w2:IntKind.i64.wrap ((i:Int)+1+1)=(i:Int)+1+1:=wrI (by omega) (by omega)
  simp[qmD,↓qbh,↓qbj,↓qbb,↓qbB,↓qa8,qbc,↓qba,↓qa9,↓qbz,↓qbe,↓qbQ,qaT,writeS,touchS,qax,qaI,chg,qaZ,qaO,qaE,qaP,PV.refs,IOp.okD,Nat.testBit,hlen,g1,g2,g3,g4,g7,w1',w2,↓qiV,-qch,↓qn2,↓qn1,↓qjr];refine hc _ _ ?_;rw[show ∀v,(fs.map I).set (i+1) (DV.i .i64 v)=(fs.set (i+1) v).map I from fun v=>List.map_set.symm]
  simp[gc,Fr.keep,qaf,qae,qad,PV.refs,qah,gcH,qaj,Obj.refs,PV.ren,Obj.ren,Heap.obj,Fr.ren,gh,zzd,w64]
def qhn (frm upto:Int):Bool:=qbq frm&&(qbq upto&&(decide (frm≤upto)&&decide (upto-frm<4000)))
def zer (frm upto:Int):List Int:=List.replicate (upto-frm+1).toNat 0
def qi2 (j:List AEntry) (acc frm upto:Int):List Int:=if qhn frm upto=true then qbR 0 (qat (mvE acc (fDa frm upto)) 0 (zer frm upto) j) else []
theorem qzL {frm upto:Int} {es:List Int} {e:AEntry} {x:ALeg} (h : ∀y∈es,w64 y=y) : ∀y∈fDa frm upto es e x,w64 y=y:=by
 intro y hy;unfold fDa at hy;split at hy
 ·split at hy
  ·rcases List.mem_or_eq_of_mem_set hy with hy|rfl
   ·exact h y hy
   ·exact qkB _
  ·exact h y hy
 ·exact h y hy
theorem qnI {acc frm upto:Int} (P:List Int→Prop) (hP : ∀es e x,P es→P (fDa frm upto es e x)) : ∀(j:List AEntry) (i:Nat) (es:List Int),P es→P (qat (mvE acc (fDa frm upto)) i es j)
 | [],_,_,h=>h
 |e::j,i,es,h=>by
  rw[qat];refine qnI P hP j _ _ ?_;have : ∀(l:List ALeg) (i:Nat) (es:List Int),P es→P (qat (mvL acc (fDa frm upto) e) i es l):=by
   intro l;induction l with
   |nil=>intro _ _ h;exact h
   |cons x l ih =>
    intro i es h;rw[qat];refine ih _ _ ?_;unfold mvL;split
    ·exact hP _ _ _ h
    ·exact h
  exact this _ _ _ h
theorem qJI (T:Tab) (hT:HU T) (hV:HV T) (j:List AEntry) (t:Bool) (acc frm upto:Int) (hn:j.length≤maxLen) (ho : ∀e∈j,e.Legs.l.length≤maxLen):T.val 880 [.l (K1 10) (j.map AEntry.dv) t,I acc,I frm,I upto]=some (.d (.l K0 ((qi2 j acc frm upto).map I) false),true):=by
 rw[qab T (hV 880 qjJ rfl) rfl];have e1:=qme T hV frm
 have e2:=qme T hV upto
 by_cases hok:qhn frm upto=true
 ·have hd:qi2 j acc frm upto=qbR 0 (qat (mvE acc (fDa frm upto)) 0 (zer frm upto) j):=by rw[qi2,if_pos hok]
  rw[hd];simp only[qhn,zzf,zzq] at hok;obtain⟨h1,h2,h3,h4⟩:=hok;rw[h1] at e1;rw[h2] at e2;obtain⟨h1a,h1b⟩:0≤frm∧frm≤73048:=by simpa[qbq] using h1
  obtain⟨h2a,h2b⟩:0≤upto∧upto≤73048:=by simpa[qbq] using h2
  obtain⟨n,hnn⟩ : ∃n:Nat,(n:Int)=upto-frm+1:=⟨(upto-frm+1).toNat,by omega⟩
  have w1:IntKind.i64.wrap (upto-frm)=upto-frm:=wrI (by omega) (by omega)
  have w2:IntKind.i64.wrap (upto-frm+1)=(n:Int):=by rw[wrI (by omega) (by omega)];omega
  have g1 : ¬upto<frm:=by omega
  have g2 : ¬(4000≤upto-frm):=by omega
  have g3:(n:Int)*8≤140737488355328:=by omega
  have hz:(upto-frm+1).toNat=n:=by omega
  have e3:=qHa T hT j t acc frm upto n (List.replicate n (I 0))
  have e4:=qqj T hT (qC0 T hT frm upto j t acc n h1 h2 h3 hnn) hn ho (List.replicate n 0) (by simp)
  have hS:zer frm upto=List.replicate n 0:=by rw[zer,hz]
  rw[hS];have hlen:(qat (mvE acc (fDa frm upto)) 0 (List.replicate n 0) j).length=n:=qnI (fun es=>es.length=n) (fun es e x h=>by rw[qpY];exact h) j 0 _ (by simp)
  have hnr : ∀y∈qat (mvE acc (fDa frm upto)) 0 (List.replicate n 0) j,w64 y=y:=qnI (fun es=>∀y∈es,w64 y=y) (fun es e x h=>qzL h) j 0 _ (fun y hy=>by rw[(List.mem_replicate.1 hy).2];rfl)
  generalize qat (mvE acc (fDa frm upto)) 0 (List.replicate n 0) j=fs at *
  have lp:=fun k fr H => @qCo T fs n hlen (by omega) (by omega) hnr k fr H
  have hpl:(qbR 0 fs).length=n:=by rw[qnO,hlen]
  simp[qjJ,Fr.ofArgs,e1,e2,w1,w2,g1,g2,g3,qtc,qpn,qil,e3,↓qql,↓qsd,qpM,Fr.only];simp only[qgE,List.map_replicate] at e4;refine (congrArg (fun z=>bo z _) e4).trans ?_
  simp[qkt];refine (lp _ _ _ (by simp[gc,Fr.keep,qaf,qae,qad,PV.refs,qah,gcH,qaj,Obj.refs,PV.ren,Obj.ren,Heap.obj,Fr.ren,gh,zzd])).trans ?_
  have ht:((qbR 0 fs).map I).take n=(qbR 0 fs).map I:=List.take_of_length_le (by simp[hpl])
  simp[fin,runG,hpl,ht]
 ·have hd:qi2 j acc frm upto=[]:=by rw[qi2,if_neg hok]
  rw[hd];simp only[qhn,zzf,zzq] at hok;have w1:qbq frm=true→qbq upto=true→IntKind.i64.wrap (upto-frm)=upto-frm:=by
   intro a b;simp[qbq] at a b;exact wrI (by omega) (by omega)
  obtain⟨a,ha⟩ : ∃a,qbq frm=a:=⟨_,rfl⟩;obtain⟨b,hb⟩ : ∃b,qbq upto=b:=⟨_,rfl⟩;rw[ha] at e1 hok w1;rw[hb] at e2 hok w1;cases a<;>cases b<;>simp only[forall_const,zzg,false_imp_iff] at w1
  all_goals simp[qjJ,Fr.ofArgs,e1,e2]
  repeat' (refine qaM (fun h => ?_) (fun h => ?_)<;>(try simp at h)<;>(try simp[h,w1]))
  all_goals (simp at hok;omega)
def fDR (acc frm:Int) (_:Nat) (es:List Int) (e:AEntry):List Int:=qbO (dOf frm e.Value) (qhk acc e) es
def dly (j:List AEntry) (acc frm upto:Int):List Int:=if qhn frm upto=true then qat (fDR acc frm) 0 (zer frm upto) j else []
theorem qBC (T:Tab) (j:List AEntry) (t:Bool) (acc frm upto v n:Int) (oi N:Nat) (es:List Int) (hl:es.length=N) (hN:(N:Int)=upto-frm+1) (h1:0≤frm) (h2:upto≤73048) {k:KC (PV×Bool)} {fr:Fr} {H:Heap} {r:Option (PV×Bool)}
  (hr : ∀d b,k (.exit 2) [(60,.d (.b b)),(12,.d (I d)),(11,.d (I n)),(10,.d (I oi)),(9,.r 0 K0 0 N false),(3,.d (I upto)),(2,.d (I frm)),(1,.d (I acc)),(0,.d (.l (K1 10) (j.map AEntry.dv) t))] [some (.sl K0 0 ((if n=0 then es else qbO (dOf frm v) n es).map I))]=r)
  (h0:gc [0,1,2,3,9,10,11,12] 0 ⟨fr,H⟩=⟨[(12,.d (I (max frm v))),(11,.d (I n)),(10,.d (I oi)),(9,.r 0 K0 0 N false),(3,.d (I upto)),(2,.d (I frm)),(1,.d (I acc)),(0,.d (.l (K1 10) (j.map AEntry.dv) t))],[some (.sl K0 0 (es.map I))]⟩) :
  kC T.env 0 fr H (.h (.loop [0,1,2,3,9,10,11,12] qlc,k))=r:=by
 obtain⟨m,hm⟩ : ∃m,max frm v=m:=⟨_,rfl⟩;have hm1:frm≤m:=by omega
 obtain⟨q,hq⟩ : ∃q:Nat,dOf frm v=q:=⟨_,rfl⟩;have hq1:(q:Int)=m-frm:=by rw[←hq,dOf,hm];omega
 rw[hm] at h0;rw[hq] at hr;by_cases hn:n=0
 ·subst hn;simp only[if_true] at hr;refine qgo (fun _:Unit=>⟨[(12,.d (I m)),(11,.d (I 0)),(10,.d (I oi)),(9,.r 0 K0 0 N false),(3,.d (I upto)),(2,.d (I frm)),(1,.d (I acc)),(0,.d (.l (K1 10) (j.map AEntry.dv) t))],[some (.sl K0 0 (es.map I))]⟩) (fun _=>()) 0 ?_ ?_ h0
  ·intro B _;by_cases hu:m≤upto
   ·simp[hu,hr]
   ·simp[hu,hr]
  ·intro B _ i hi;exact absurd hi (zzm _)
 ·simp only[if_neg hn] at hr;have hne:(n != 0)=true:=by simpa using hn
  refine qgo (fun s:Int×List Int=>⟨[(12,.d (I s.1)),(11,.d (I n)),(10,.d (I oi)),(9,.r 0 K0 0 N false),(3,.d (I upto)),(2,.d (I frm)),(1,.d (I acc)),(0,.d (.l (K1 10) (j.map AEntry.dv) t))],[some (.sl K0 0 (s.2.map I))]⟩) (fun i=>(m+i,qco q i n es)) (N-q) ?_ ?_ (by rw[h0,qmO];simp)
  ·intro B _;have hu : ¬m+((N-q:Nat):Int)≤upto:=by omega
   have ha:qco q (N-q) n es=qbO q n es:=by
    by_cases hle:q≤N
    ·exact qpa _ _ _ _ (by omega)
    ·rw[show N-q=0 by omega,qmO,qo8 _ _ _ (by omega)]
   simp only[ha];simp[hu,hr]
  ·intro B _ i hi c hc;have hst:=qpb es q i n (by rw[qiT];omega)
   obtain⟨fs,hfs⟩ : ∃fs,qco q i n es=fs:=⟨_,rfl⟩;have hlen:fs.length=N:=by rw[←hfs,qiT,hl]
   have g5:q+i<fs.length:=by omega
   have hst':qco q (i+1) n es=fs.set (q+i) (w64 (fs[q+i]+n)):=by subst hfs;exact hst.symm
   clear hst
   simp only[hst'] at hc;simp only[hfs];have hu:m+(i:Int)≤upto:=by omega
   have w1:IntKind.i64.wrap (m+(i:Int)-frm)=((q+i:Nat):Int):=by rw[wrI (by omega) (by omega)];omega
   have w2:IntKind.i64.wrap (m+(i:Int)+1)=m+(i:Int)+1:=wrI (by omega) (by omega)
   obtain⟨z,hz⟩ : ∃z,q+i=z:=⟨_,rfl⟩;simp only[hz] at w1 g5 hc;have g6:(z:Int)<N:=by omega
   have g7:z<N:=by omega
   simp[hu,hne,w1,w2,hlen,g6,g7,↓qiV,-qch,↓qn2,↓qn1,↓qjr];refine hc _ _ ?_;rw[show ∀v,(fs.map I).set z (DV.i .i64 v)=(fs.set z v).map I from fun v=>List.map_set.symm]
   simp[gc,Fr.keep,qaf,qae,qad,PV.refs,qah,gcH,qaj,Obj.refs,PV.ren,Obj.ren,Heap.obj,Fr.ren,gh,zzd,w64];try omega
theorem qpX {acc frm:Int} : ∀(j:List AEntry) (i:Nat) (es:List Int),(qat (fDR acc frm) i es j).length=es.length
 | [],_,_=>rfl
 |e::j,i,es=>by rw[qat,qpX j];exact qmM _ _ _
theorem qBD (T:Tab) (hU:HU T) (j:List AEntry) (t:Bool) (acc frm upto:Int) (N:Nat) (hN:(N:Int)=upto-frm+1) (h1:0≤frm) (h2:upto≤73048) (hn:j.length≤maxLen) (ho : ∀e∈j,e.ok) {k:KC (PV×Bool)} {fr:Fr} {H:Heap}
  (h0:gc [0,1,2,3,9,10] 0 ⟨fr,H⟩=⟨[(10,.d (I 0)),(9,.r 0 K0 0 N false),(3,.d (I upto)),(2,.d (I frm)),(1,.d (I acc)),(0,.d (.l (K1 10) (j.map AEntry.dv) t))],[some (.sl K0 0 ((List.replicate N (0:Int)).map I))]⟩) :
  kC T.env 0 fr H (.h (.loop [0,1,2,3,9,10] qmq,k))=k (.exit 0) [(38,.d (.b false)),(10,.d (I j.length)),(9,.r 0 K0 0 N false),(3,.d (I upto)),(2,.d (I frm)),(1,.d (I acc)),(0,.d (.l (K1 10) (j.map AEntry.dv) t))] [some (.sl K0 0 ((qat (fDR acc frm) 0 (List.replicate N 0) j).map I))]:=by
 have hm:=mxl
 rw[qbY j (fun i (es:List Int)=>⟨[(10,.d (I i)),(9,.r 0 K0 0 N false),(3,.d (I upto)),(2,.d (I frm)),(1,.d (I acc)),(0,.d (.l (K1 10) (j.map AEntry.dv) t))],[some (.sl K0 0 (es.map I))]⟩) (fun _ es=>es.length=N∧∀y∈es,w64 y=y) (fun i es x c=>c (fDR acc frm i es x)) (fun es=>k (.exit 0) [(38,.d (.b false)),(10,.d (I j.length)),(9,.r 0 K0 0 N false),(3,.d (I upto)),(2,.d (I frm)),(1,.d (I acc)),(0,.d (.l (K1 10) (j.map AEntry.dv) t))] [some (.sl K0 0 (es.map I))]) ?_ ?_ (b0:=List.replicate N 0) h0 ⟨by simp,fun y hy=>by rw[(List.mem_replicate.1 hy).2];rfl⟩]
 ·rw[qf8 (fDR acc frm) _ _ (fun _ _ _ _=>rfl)]
 ·intro B _ es _;simp
 ·intro B _ i es hi hs c hc;obtain⟨hs1,hs2⟩:=hs;have h1':(i:Int)<j.length:=by omega
  have h3:=wr1 (i:=i) (by omega)
  have e:=qxs T hU j[i] acc (ho _ (zzs hi))
  have hq:(if qhk acc j[i]=0 then es else qbO (dOf frm j[i].Value) (qhk acc j[i]) es)=fDR acc frm i es j[i]:=by
   unfold fDR;split
   ·rename_i hz;rw[hz,qmN _ _ hs2]
   ·rfl
  simp[h1',hi,e,↓qcr];refine qBC T j t acc frm upto j[i].Value (qhk acc j[i]) i N es hs1 hN h1 h2 (fun d b => ?_) (by simp[gc,Fr.keep,qaf,qae,qad,PV.refs,qah,gcH,qaj,Obj.refs,PV.ren,Obj.ren,Heap.obj,Fr.ren,gh,zzd])
  rw[hq];simp[h3];exact hc _ _ _ ⟨by rw[fDR,qmM];exact hs1,qo9 _ _ _ hs2⟩ (by simp[gc,Fr.keep,qaf,qae,qad,PV.refs,qah,gcH,qaj,Obj.refs,PV.ren,Obj.ren,Heap.obj,Fr.ren,gh,zzd])
theorem qIb (T:Tab) (hU:HU T) (hV:HV T) (j:List AEntry) (t:Bool) (acc frm upto:Int) (hn:j.length≤maxLen) (ho : ∀e∈j,e.ok):T.val 1037 [.l (K1 10) (j.map AEntry.dv) t,I acc,I frm,I upto]=some (.d (.l K0 ((dly j acc frm upto).map I) false),true):=by
 rw[qab T (hV 1037 F1037 rfl) rfl];by_cases hok:qhn frm upto=true
 ·have hd:dly j acc frm upto=qat (fDR acc frm) 0 (zer frm upto) j:=by rw[dly,if_pos hok]
  rw[hd];simp only[qhn,qbq,zzf,zzq] at hok;obtain⟨⟨h1a,h1b⟩,⟨h2a,h2b⟩,h3,h4⟩:=hok;obtain⟨n,hnn⟩ : ∃n:Nat,(n:Int)=upto-frm+1:=⟨(upto-frm+1).toNat,by omega⟩
  have w1:IntKind.i64.wrap (upto-frm)=upto-frm:=wrI (by omega) (by omega)
  have w2:IntKind.i64.wrap (upto-frm+1)=(n:Int):=by rw[wrI (by omega) (by omega)];omega
  have g0 : ¬frm<0:=by omega
  have g0' : ¬73048<upto:=by omega
  have g1 : ¬upto<frm:=by omega
  have g2 : ¬(4000≤upto-frm):=by omega
  have g3:(n:Int)*8≤140737488355328:=by omega
  have hz:(upto-frm+1).toNat=n:=by omega
  have hS:zer frm upto=List.replicate n 0:=by rw[zer,hz]
  rw[hS];have lp:=fun k fr H => @qBD T hU j t acc frm upto n hnn h1a h2b hn ho k fr H
  have hpl:(qat (fDR acc frm) 0 (List.replicate n 0) j).length=n:=by rw[qpX];simp
  have ht:((qat (fDR acc frm) 0 (List.replicate n 0) j).map I).take n=(qat (fDR acc frm) 0 (List.replicate n 0) j).map I:=List.take_of_length_le (by simp[hpl])
  simp[F1037,Fr.ofArgs,w1,w2,g0,g0',g1,g2,g3,qtc,qpn];refine (lp _ _ _ (by simp[gc,Fr.keep,qaf,qae,qad,PV.refs,qah,gcH,qaj,Obj.refs,PV.ren,Obj.ren,Heap.obj,Fr.ren,gh,zzd])).trans ?_
  simp[hpl,ht]
 ·have hd:dly j acc frm upto=[]:=by rw[dly,if_neg hok]
  rw[hd];simp only[qhn,qbq,zzf,zzq] at hok;by_cases ha:0≤frm∧frm≤upto∧upto≤73048
  ·have w1:IntKind.i64.wrap (upto-frm)=upto-frm:=wrI (by omega) (by omega)
   simp[F1037,Fr.ofArgs];repeat' (refine qaM (fun h => ?_) (fun h => ?_)<;>(try simp at h)<;>(try simp[h,w1]))
   all_goals omega
  ·simp[F1037,Fr.ofArgs];repeat' (refine qaM (fun h => ?_) (fun h => ?_)<;>(try simp at h)<;>(try simp[h]))
   all_goals (exfalso;omega)
theorem qwp : ∀(l:List Int) (s:Int),∀y∈qbR s l,w64 y=y
 | [],_,y,h=>by simp[qbR] at h
 |x::l,s,y,h=>by
  simp only[qbR,List.mem_cons] at h;rcases h with rfl|h
  ·exact qkB _
  ·exact qwp l _ y h
theorem qrD (acc frm upto:Int) (e:AEntry) (hv:e.Value≤upto) (N:Nat) (hk:dOf frm e.Value<N) : ∀(l:List ALeg) (i:Nat) (es:List Int),es.length=N→qbR 0 (qat (mvL acc (fDa frm upto) e) i es l)=qbO (dOf frm e.Value) (qat (qb5 acc) i 0 l) (qbR 0 es)
 | [],_,es,h=>by rw[qat,qat,qmN _ _ (qwp _ _)]
 |x::l,i,es,h=>by
  rw[qat,qat];by_cases ha:x.Account=acc
  ·have hke:dOf frm e.Value<es.length:=by omega
   have e1:mvL acc (fDa frm upto) e i es x=es.set (dOf frm e.Value) (w64 (es[dOf frm e.Value] + -x.Amount)):=by
    rw[mvL,if_pos ha,fDa,if_pos hv,zze hke];rfl
   have e2:qb5 acc i 0 x=w64 (-x.Amount+0):=by
    rw[qb5,if_pos (by simpa using ha)];congr 1;omega
   rw[e1,qrD acc frm upto e hv N hk l (i+1) _ (by simpa using h),qwq _ _ _ _ hke,qo7,e2,qnE]
   rfl
  ·have e1:mvL acc (fDa frm upto) e i es x=es:=by rw[mvL,if_neg ha]
   have e2:qb5 acc i 0 x=0:=by rw[qb5,if_neg (by simpa using ha)]
   rw[e1,qrD acc frm upto e hv N hk l (i+1) _ h,e2]
theorem qC2 (acc frm upto:Int) (N:Nat) (hN:(N:Int)=upto-frm+1) (h0:frm≤upto) (e:AEntry) (i:Nat) (es:List Int) (h:es.length=N):qbR 0 (mvE acc (fDa frm upto) i es e)=fDR acc frm i (qbR 0 es) e:=by
 unfold mvE fDR qhk;by_cases hv:e.Value≤upto
 ·exact qrD acc frm upto e hv N (by unfold dOf;omega) _ _ _ h
 ·have : ∀(l:List ALeg) (i:Nat),qat (mvL acc (fDa frm upto) e) i es l=es:=by
   intro l;induction l with
   |nil=>intro _;rfl
   |cons x l ih =>
    intro i;have e1:mvL acc (fDa frm upto) e i es x=es:=by
     simp[mvL,fDa,hv]
    rw[qat,e1,ih]
  rw[this,qo8 _ _ _ (by rw[qnO,h];unfold dOf;omega)]
theorem qtP (acc frm upto:Int) (N:Nat) (hN:(N:Int)=upto-frm+1) (h0:frm≤upto) : ∀(j:List AEntry) (i:Nat) (es:List Int),es.length=N→qbR 0 (qat (mvE acc (fDa frm upto)) i es j)=qat (fDR acc frm) i (qbR 0 es) j
 | [],_,_,_=>rfl
 |e::j,i,es,h=>by
  have hl:(mvE acc (fDa frm upto) i es e).length=N:=qnI (fun es=>es.length=N) (fun es e x h=>by rw[qpY];exact h) [e] i es h
  rw[qat,qat,qtP acc frm upto N hN h0 j (i+1) _ hl,qC2 acc frm upto N hN h0 e i es h]
theorem qzt (j:List AEntry) (acc frm upto:Int):qi2 j acc frm upto=dly j acc frm upto:=by
 unfold qi2 dly;split
 ·rename_i hok;simp only[qhn,qbq,zzf,zzq] at hok;obtain⟨⟨h1a,h1b⟩,⟨h2a,h2b⟩,h3,h4⟩:=hok;rw[qtP acc frm upto (upto-frm+1).toNat (by omega) h3 j 0 _ (by simp[zer]),zer,qws]
 ·rfl
theorem qtQ (j:List AEntry) (acc frm upto:Int):(dly j acc frm upto).length≤4000:=by
 unfold dly;split
 ·rename_i hok;simp only[qhn,qbq,zzf,zzq] at hok;rw[qpX,zer,List.length_replicate];omega
 ·simp
theorem qJJ (T:Tab) (hT:HU T) (hV:HV T) (j:List AEntry) (t:Bool) (acc frm upto:Int) (hn:j.length≤maxLen) (ho : ∀e∈j,e.Legs.l.length≤maxLen):T.val 880 [.l (K1 10) (j.map AEntry.dv) t,I acc,I frm,I upto]=some (.d (.l K0 ((dly j acc frm upto).map I) false),true):=by
 rw[qJI T hT hV j t acc frm upto hn ho,qzt]
end Go.Sim
end
section
namespace Go.Sim
set_option maxRecDepth 10000
set_option maxHeartbeats 4000000
theorem qJO (T:Tab) (hV:HV T) (n:Int):T.val 884 [I n]=some (.d (.a [I 2,I n]),false):=by
 rw[qab T (hV 884 qk5 rfl) rfl];simp[qk5,Fr.ofArgs,qan,qaq,qap,qam,putAt,mkA,qak]
theorem qJP (T:Tab) (hV:HV T) (n:Int):T.val 885 [I n]=some (.d (.a [I 1,I n]),false):=by
 rw[qab T (hV 885 qk6 rfl) rfl];simp[qk6,Fr.ofArgs,qan,qaq,qap,qam,putAt,mkA,qak]
def wth (n b:Int):Bool:=decide (-b≤n)&&decide (n≤b)
theorem qst (T:Tab) (hV:HV T) (n b:Int) (hb:0≤b) (hb2:b<9223372036854775808):T.val 1046 [I n,I b]=some (.d (.b (wth n b)),false):=by
 rw[qab T (hV 1046 qkF rfl) rfl];have w:IntKind.i64.wrap (-b) = -b:=wrI (by omega) (by omega)
 simp[qkF,Fr.ofArgs,w,wth];repeat' (refine qaM (fun h => ?_) (fun h => ?_)<;>(try simp at h)<;>(try simp[h,w]))
 all_goals omega
theorem qIc (T:Tab) (hV:HV T) (n:Int):T.val 1038 [.a [I 2,I n]]=some (.d (.b (wth n 1000000000000)),false):=by
 rw[qab T (hV 1038 qfW rfl) rfl];have e:=qst T hV n 1000000000000 (by omega) (by omega)
 simp[qfW,Fr.ofArgs,e,qzl]
def V2 (p:Int×Int):DV:=.a [I p.1,I p.2]
abbrev MA:Int:=1000000000000
def vm (n:Int):DV:=V2 (2,n)
def qjq (b:ABooks) (a:AAccount) (id day frm:Int) (l:List Int):Nat→Unit→St
 | 0,_=>⟨[(18,.d (I 0)),(17,.d (.l (K1 2) [] true)),(16,.r 0 K0 0 l.length true),(12,.d (I frm)),(10,.p 1 0 0),(4,.p 2 0 0),(2,.d (I day)),(1,.d (I id))],[some (.sl K0 0 (l.map I)),some (.box (K1 7) (.d a.dv)),some (.box (K1 22) (.d b.dv))]⟩
 |i+1,_=>⟨[(18,.d (I ((i:Int)+1))),(17,.r 0 (K1 2) 0 (i+1) false),(16,.r 1 K0 0 l.length true),(12,.d (I frm)),(10,.p 2 0 0),(4,.p 3 0 0),(2,.d (I day)),(1,.d (I id))],[some (.sl (K1 2) 0 ((l.take (i+1)).map vm)),some (.sl K0 0 (l.map I)),some (.box (K1 7) (.d a.dv)),some (.box (K1 22) (.d b.dv))]⟩
theorem qBx (T:Tab) (hV:HV T) (b:ABooks) (a:AAccount) (id day frm:Int) (l:List Int) (hl:l.length<1000) (h1:0<l.length) {k:KC (PV×Bool)} {fr:Fr} {H:Heap} {r:Option (PV×Bool)}
  (hr : ∀fr H,fr.get 8 = .d (.l (K1 2) [] true)→fr.get 9 = .d (I 6)→qar fr=[]→k .ret fr H=r)
  (h0:gc [1,2,4,10,12,16,17,18] 0 ⟨fr,H⟩=qjq b a id day frm l 0 ()) :
  kC T.env 0 fr H (.h (.loop [1,2,4,10,12,16,17,18] qmn,k))=brn (l.all fun n=>wth n MA) (.h (k (.exit 0) [(70,.d (.b false)),(18,.d (I l.length)),(17,.r 0 (K1 2) 0 l.length false),(16,.r 1 K0 0 l.length true),(12,.d (I frm)),(10,.p 2 0 0),(4,.p 3 0 0),(2,.d (I day)),(1,.d (I id))] [some (.sl (K1 2) 0 (l.map vm)),some (.sl K0 0 (l.map I)),some (.box (K1 7) (.d a.dv)),some (.box (K1 22) (.d b.dv))],r)):=by
 rw[qbY l (qjq b a id day frm l) (fun _ _=>True) (fun i _ x c=>if wth x MA=true then c () else r) (fun _=>k (.exit 0) [(70,.d (.b false)),(18,.d (I l.length)),(17,.r 0 (K1 2) 0 l.length false),(16,.r 1 K0 0 l.length true),(12,.d (I frm)),(10,.p 2 0 0),(4,.p 3 0 0),(2,.d (I day)),(1,.d (I id))] [some (.sl (K1 2) 0 (l.map vm)),some (.sl K0 0 (l.map I)),some (.box (K1 7) (.d a.dv)),some (.box (K1 22) (.d b.dv))]) ?_ ?_ h0 trivial]
 ·rw[ql7 (fun n=>wth n MA) r]
  ·cases l.all fun n=>wth n MA<;>rfl
  ·exact fun _ _ _ _=>rfl
 ·intro B _ _ _;obtain⟨n,hn⟩ : ∃n,l.length=n+1:=⟨l.length-1,by omega⟩
  have ht:l.take (n+1)=l:=List.take_of_length_le (by omega)
  have hz:qjq b a id day frm l l.length ()=⟨[(18,.d (I ((n:Int)+1))),(17,.r 0 (K1 2) 0 (n+1) false),(16,.r 1 K0 0 l.length true),(12,.d (I frm)),(10,.p 2 0 0),(4,.p 3 0 0),(2,.d (I day)),(1,.d (I id))],[some (.sl (K1 2) 0 (l.map vm)),some (.sl K0 0 (l.map I)),some (.box (K1 7) (.d a.dv)),some (.box (K1 22) (.d b.dv))]⟩:=by
   rw[hn];simp only[qjq,ht,hn]
  rw[hz];simp[hn]
 ·intro B _ i _ hi _ c hc;have e:=qIc T hV l[i]
  have hv : ∀x,DV.a [DV.i .i64 2,DV.i .i64 x]=vm x:=fun _=>rfl
  cases i with
  |zero =>
   have w1:IntKind.i64.wrap 1=1:=rfl
   have hc':=fun fr H=>hc () fr H trivial
   clear hc
   have ht:l.take (0+1)=[l[0]]:=by cases l with
    |nil=>simp at hi
    |cons x r=>rfl
   simp only[qjq,ht] at hc'⊢;simp[↓qiV,e,qan,qaq,qap,qam,putAt,mkA,qak,↓qjr,hi];refine qaM (fun h => ?_) (fun h => ?_)
   ·rw[if_pos h];simp[w1];refine hc' _ _ ?_;simp[gc,Fr.keep,qaf,qae,qad,PV.refs,qah,gcH,qaj,Obj.refs,PV.ren,Obj.ren,Heap.obj,Fr.ren,gh,zzd,vm,V2]
   ·rw[if_neg (by rw[h];decide)]
    simp;exact hr _ _ (by simp[Fr.get]) (by simp[Fr.get]) (by simp[qar,gh])
  |succ i =>
   have w1:IntKind.i64.wrap ((i:Int)+1+1)=(i:Int)+1+1:=wrI (by omega) (by omega)
   have hc':=fun fr H=>hc () fr H trivial
   clear hc
   have ht:(l.take (i+1+1)).map vm=(l.take (i+1)).map vm++[vm l[i+1]]:=by
    rw[List.take_succ_eq_append_getElem hi,List.map_append];rfl
   simp only[qjq,ht] at hc'⊢;have ho:((l.take (i+1)).map vm).length=i+1:=by simp;omega
   generalize (l.take (i+1)).map vm=out at *
   have g1:(0:Int)≤(i:Int)+1:=by omega
   have g2:((i:Int)+1).toNat=i+1:=by omega
   have g3:(i:Int)+1<l.length:=by omega
   have g4:out.take (i+1)=out:=List.take_of_length_le (by omega)
   have g5:(i+1+1)*16≤140737488355328:=by omega
   simp[↓qiV,e,qan,qaq,qap,qam,putAt,mkA,qak,↓qjr,hi,g1,g3];refine qaM (fun h => ?_) (fun h => ?_)
   ·rw[if_pos h];simp[w1,g4,g5,ho];refine hc' _ _ ?_;simp[gc,Fr.keep,qaf,qae,qad,PV.refs,qah,gcH,qaj,Obj.refs,PV.ren,Obj.ren,Heap.obj,Fr.ren,gh,zzd,vm,V2]
   ·rw[if_neg (by rw[h];decide)]
    simp;exact hr _ _ (by simp[Fr.get]) (by simp[Fr.get]) (by simp[qar,gh])
noncomputable def qhE (b:ABooks) (a:AAccount) (id day amount:Int):List Int:=[ofR b.Journal.l id,qgp (dly b.Journal.l id (max (mst day) a.Opened) day),(qht b.Journal.l id (mst day) day).1,amount]
noncomputable def qaX (b:ABooks) (id day amount:Int):List (Int×Int)×Int:=match qcl b id with
 |none=>([],11)
 |some a=>if (qbq day&&qgw b id day)=true then (if ((qhE b a id day amount).all fun n=>wth n MA)=true then ((qhE b a id day amount).map (fun n=>(2,n))++[(1,qhH b.Journal.l id (mst day) day),(1,w64 (day-a.Opened)),(4,day)],0) else ([],6)) else ([],16)
attribute [local simp ↓ 2000] quW
theorem qH5 (T:Tab) (hU:HU T) (hV:HV T) (b:ABooks) (id day amount:Int) (hb:b.ok):T.val 1030 [b.dv,I id,I day,I amount]=some (.t [.d (.l (K1 2) ((qaX b id day amount).1.map V2) (qaX b id day amount).1.isEmpty),.d (I (qaX b id day amount).2)],false):=by
 rw[qab T (hV 1030 F1030 rfl) rfl];have e:=qoc T hU b id hb
 have e1:=qob T hV day
 have e2:=qxW T hV hU b id day hb
 unfold qaX;cases hf:qcl b id with
 |none =>
  rw[hf] at e;simp only[Option.getD_none,Option.isSome_none] at e;simp[F1030,Fr.ofArgs,e,qaL,pur,qbd]
 |some a =>
  rw[hf] at e;simp only[Option.getD_some,Option.isSome_some] at e;obtain⟨v,hv⟩ : ∃v,qbq day=v:=⟨_,rfl⟩;obtain⟨q,hq⟩ : ∃q,qgw b id day=q:=⟨_,rfl⟩;rw[hv] at e1;rw[hq] at e2;simp only[hv,hq];cases v with
  |false=>simp[F1030,Fr.ofArgs,e,e1,qaL,pur,qbd]
  |true =>
   cases q with
   |false=>simp[F1030,Fr.ofArgs,e,e1,e2,qaL,pur,qbd]
   |true =>
    have hj:=(hb.2.2.2.2.2.2.1)
    have ho : ∀e∈b.Journal.l,e.Legs.l.length≤maxLen:=fun e he=>((hj.2 e he).2.2.2.2.2.2.2.2.1).1
    have e3:=qH8 T hV day hv
    have e4:=qH9 T hV b.Journal.l b.Journal.t id (mst day) day hj.1 ho
    have e5:=qIb T hU hV b.Journal.l b.Journal.t id (max (mst day) a.Opened) day hj.1 hj.2
    have e6:=qIa T hV (dly b.Journal.l id (max (mst day) a.Opened) day) false (by have:=qtQ b.Journal.l id (max (mst day) a.Opened) day;have:maxLen=9223372036854775807:=rfl;omega)
    have e7:=qH4 T hU b.Journal.l b.Journal.t id hj.1 hj.2
    have e8:=qId T hV b.Journal.l b.Journal.t id (mst day) day hj.1 hj.2
    obtain⟨am,ham⟩ : ∃l,qhE b a id day amount=l:=⟨_,rfl⟩;obtain⟨ok,hok⟩ : ∃q,(am.all fun n=>wth n MA)=q:=⟨_,rfl⟩
    have hl:am.length=4:=by rw[←ham];rfl
    have lp:=fun k r fr H => @qBx T hV b a id day (mst day) am (by omega) (by omega) k fr H r
    simp only[hok] at lp;simp only[ham,hok];simp[F1030,Fr.ofArgs,e,e1,e2,e3,e4,e5,e6,e7,↓qcr,qie,qih,qig];refine (lp _ (some (.t [.d (.l (K1 2) [] true),.d (I 6)],false)) _ _ ?_ ?_).trans ?_
    ·intro fr H h8 h9 hg;simp[h8,h9,hg,qcc,qaL,pur,qbd]
    ·simp[gc,Fr.keep,qaf,qae,qad,PV.refs,qah,gcH,qaj,Obj.refs,PV.ren,Obj.ren,Heap.obj,Fr.ren,gh,zzd,qjq,←ham,qhE]
    ·refine qaM (fun h => ?_) (fun h => ?_)
     ·subst h;have hl2:(am.map vm).length=4:=by simp[hl]
      have hvm:am.map vm=(am.map fun n=>(2,n)).map V2:=by simp[vm,Function.comp_def]
      have ht:(am.map vm).take 4=am.map vm:=List.take_of_length_le (by omega)
      simp[hl,hl2,ht,e8,↓qbh,↓qbb,↓qa8,qbc,↓qba,↓qbt,↓qbu,↓qa9,↓qbe,↓qbg,↓qby,qaT,writeS,touchS,qax,qaI,chg,qaZ,qaO,qaE,qaP,PV.refs,IOp.okD,Nat.testBit,qjZ,qan,qaq,qap,qam,putAt,mkA,qak,qie,qih,qig,qaL,pur,qbd];rw[List.take_of_length_le (by simp[hl])]
      simp[V2,vm,w64,Function.comp_def]
     ·subst h;simp
theorem qCj (T:Tab) (a:AAccount) (day amount _frm now low vol cnt:Int) (l:List Int) (hn:l.length≤maxLen) {k:KC (PV×Bool)} {r:Option (PV×Bool)} {fr:Fr} {H:Heap}
  (hr : ∀fr H,fr.get 8 = .d (.l (K1 2) [] true)→fr.get 9 = .d (I 6)→qar fr=[]→k .ret fr H=r)
  (h0:gc [2,3,10,13,14,16,18,103,104,105] 0 ⟨fr,H⟩=⟨[(105,.d (I 0)),(104,.d (I l.length)),(103,.r 0 K0 0 l.length true),(18,.d (I cnt)),(16,.d (I vol)),(14,.d (I low)),(13,.d (I now)),(10,.p 1 0 0),(3,.d (I amount)),(2,.d (I day))],[some (.sl K0 0 (l.map I)),some (.box (K1 7) (.d a.dv))]⟩) :
  kC T.env 0 fr H (.h (.loop [2,3,10,13,14,16,18,103,104,105] qoY,k))=brn (l.all fun n=>wth n MA) (.h (k (.exit 3) [(106,.d (.b false)),(105,.d (I l.length)),(104,.d (I l.length)),(103,.r 0 K0 0 l.length true),(18,.d (I cnt)),(16,.d (I vol)),(14,.d (I low)),(13,.d (I now)),(10,.p 1 0 0),(3,.d (I amount)),(2,.d (I day))] [some (.sl K0 0 (l.map I)),some (.box (K1 7) (.d a.dv))],r)):=by
 have hm:=mxl
 rw[qbY l (fun i _=>⟨[(105,.d (I i)),(104,.d (I l.length)),(103,.r 0 K0 0 l.length true),(18,.d (I cnt)),(16,.d (I vol)),(14,.d (I low)),(13,.d (I now)),(10,.p 1 0 0),(3,.d (I amount)),(2,.d (I day))],[some (.sl K0 0 (l.map I)),some (.box (K1 7) (.d a.dv))]⟩) (fun _ _=>True) (fun i _ x c=>if wth x MA=true then c () else r) (fun _=>k (.exit 3) [(106,.d (.b false)),(105,.d (I l.length)),(104,.d (I l.length)),(103,.r 0 K0 0 l.length true),(18,.d (I cnt)),(16,.d (I vol)),(14,.d (I low)),(13,.d (I now)),(10,.p 1 0 0),(3,.d (I amount)),(2,.d (I day))] [some (.sl K0 0 (l.map I)),some (.box (K1 7) (.d a.dv))]) ?_ ?_ h0 trivial]
 ·rw[ql7 (fun n=>wth n MA) r]
  ·cases l.all fun n=>wth n MA<;>rfl
  ·exact fun _ _ _ _=>rfl
 ·intro B _ _ _;simp
 ·intro B _ i _ hi _ c hc;have h1:(i:Int)<l.length:=by omega
  have h3:=wr1 (i:=i) (by omega)
  have hw:wth l[i] MA=(decide (-1000000000000≤l[i])&&decide (l[i]≤1000000000000)):=rfl
  rw[hw];simp[h1,hi,↓qiV,↓qjr];repeat' (refine qaM (fun h => ?_) (fun h => ?_)<;>(try simp at h)<;>(try simp[h,h3]))
  all_goals first
   | (rw[if_neg (by simp;omega)];exact hr _ _ (by simp[Fr.get]) (by simp[Fr.get]) (by simp[qar,gh]))
   | (rw[if_pos (by simp;omega)];exact hc () _ _ trivial (by simp[gc,Fr.keep,qaf,qae,qad,PV.refs,PV.refsL,qah,gcH,qaj,Obj.refs,PV.ren,PV.renL,Obj.ren,Heap.obj,Fr.ren,gh,zzd]))
   |exact hr _ _ (by simp[Fr.get]) (by simp[Fr.get]) (by simp[qar,gh])
   |exact hc () _ _ trivial (by simp[gc,Fr.keep,qaf,qae,qad,PV.refs,qah,gcH,qaj,Obj.refs,PV.ren,Obj.ren,Heap.obj,Fr.ren,gh,zzd])
theorem qJA (T:Tab) (hU:HU T) (hV:HV T) (b:ABooks) (id day amount:Int) (hb:b.ok):T.val 801 [b.dv,I id,I day,I amount]=some (.t [.d (.l (K1 2) ((qaX b id day amount).1.map V2) (qaX b id day amount).1.isEmpty),.d (I (qaX b id day amount).2)],false):=by
 rw[qab T (hV 801 F801 rfl) rfl];have e:=qn7 T hU b id hb
 have e1:=qme T hV day
 have e2:=qxK T hV hU b id day hb
 unfold qaX;cases hf:qcl b id with
 |none =>
  rw[hf] at e;simp only[Option.getD_none,Option.isSome_none] at e;simp[F801,Fr.ofArgs,e,qaL,pur,qbd]
 |some a =>
  rw[hf] at e;simp only[Option.getD_some,Option.isSome_some] at e;obtain⟨v,hv⟩ : ∃v,qbq day=v:=⟨_,rfl⟩;obtain⟨q,hq⟩ : ∃q,qgw b id day=q:=⟨_,rfl⟩;rw[hv] at e1;rw[hq] at e2;simp only[hv,hq];cases v with
  |false=>simp[F801,Fr.ofArgs,e,e1,qaL,pur,qbd]
  |true =>
   cases q with
   |false=>simp[F801,Fr.ofArgs,e,e1,e2,qaL,pur,qbd]
   |true =>
    have hj:=(hb.2.2.2.2.2.2.1)
    have ho : ∀e∈b.Journal.l,e.Legs.l.length≤maxLen:=fun e he=>((hj.2 e he).2.2.2.2.2.2.2.2.1).1
    have e3:=qJH T hV day hv
    have e4:=qJM T hU hV b.Journal.l b.Journal.t id (mst day) day hj.1 ho
    have e5:=qJJ T hU hV b.Journal.l b.Journal.t id (max (mst day) a.Opened) day hj.1 ho
    have e6 : ∀x r,dly b.Journal.l id (max (mst day) a.Opened) day=x::r→T.val 881 [.l K0 ((x::r).map I) false]=some (.d (I (qgp (x::r))),false):=fun x r h=>qJK T hV x r false (by have:=qtQ b.Journal.l id (max (mst day) a.Opened) day;rw[h] at this;simp at this;have:maxLen=9223372036854775807:=rfl;omega)
    have e7:=qJv T hU b.Journal.l b.Journal.t id hj.1 ho
    rw[qDe] at e7;have c1:=fun n=>qJO T hV n
    have c2:=fun n=>qJP T hV n
    have lp0:=fun now low vol k fr H => @qCi T hV a b.Journal.l b.Journal.t id (mst day) day amount now low vol hj.1 hj.2 k fr H
    obtain⟨am,ham⟩ : ∃l,qhE b a id day amount=l:=⟨_,rfl⟩;obtain⟨ok,hok⟩ : ∃q,(am.all fun n=>wth n MA)=q:=⟨_,rfl⟩
    have hl:am.length=4:=by rw[←ham];rfl
    have lp:=fun now low vol cnt k r fr H => @qCj T a day amount (mst day) now low vol cnt am (by rw[hl];decide) k r fr H
    simp only[hok] at lp;simp only[ham,hok];cases hd:dly b.Journal.l id (max (mst day) a.Opened) day with
    |nil =>
     rw[hd] at e5;simp only[List.map_nil] at e5;simp[F801,Fr.ofArgs,e,e1,e2,e3,e4,e5,e7,↓qcr];refine (lp0 (ofR b.Journal.l id) 0 (qht b.Journal.l id (mst day) day).1 _ _ _ (by simp[gc,Fr.keep,qaf,qae,qad,PV.refs,qah,gcH,qaj,Obj.refs,PV.ren,Obj.ren,Heap.obj,Fr.ren,gh,zzd])).trans ?_
     simp[qie,qih,qig];refine (lp (ofR b.Journal.l id) 0 (qht b.Journal.l id (mst day) day).1 (qhH b.Journal.l id (mst day) day) _ (some (.t [.d (.l (K1 2) [] true),.d (I 6)],false)) _ _ ?_ ?_).trans ?_
     ·intro fr H h8 h9 hg;simp[h8,h9,hg,qcc,qaL,pur,qbd]
     ·simp[gc,Fr.keep,qaf,qae,qad,PV.refs,qah,gcH,qaj,Obj.refs,PV.ren,Obj.ren,Heap.obj,Fr.ren,gh,zzd,←ham,qhE,hd,qgp,qhH]
     ·refine qaM (fun h => ?_) (fun h => ?_)
      ·subst h;simp[↓qbh,↓qbj,↓qbb,↓qa8,qbc,↓qba,↓qbt,↓qbu,↓qa9,↓qbe,↓qbg,qaT,writeS,touchS,qax,qaI,chg,qaZ,qaO,qaE,qaP,PV.refs,IOp.okD,Nat.testBit,↓qtC,↓qtr,qag,c1,c2,qan,qaq,qap,qam,putAt,mkA,qak,qie,qih,qig,qaL,pur,qbd];simp[←ham,qhE,hd,qgp,V2,w64,qhH]
      ·subst h;simp
    |cons x r =>
     have e6':=e6 x r hd
     rw[hd] at e5;simp only[zzu] at e5 e6';have hpos:(0:Int)<(r.length:Int)+1:=by omega
     simp[F801,Fr.ofArgs,e,e1,e2,e3,e4,e5,e6',e7,↓qcr,hpos];refine (lp0 (ofR b.Journal.l id) (qgp (x::r)) (qht b.Journal.l id (mst day) day).1 _ _ _ (by simp[gc,Fr.keep,qaf,qae,qad,PV.refs,qah,gcH,qaj,Obj.refs,PV.ren,Obj.ren,Heap.obj,Fr.ren,gh,zzd])).trans ?_
     simp[qie,qih,qig];refine (lp (ofR b.Journal.l id) (qgp (x::r)) (qht b.Journal.l id (mst day) day).1 (qhH b.Journal.l id (mst day) day) _ (some (.t [.d (.l (K1 2) [] true),.d (I 6)],false)) _ _ ?_ ?_).trans ?_
     ·intro fr H h8 h9 hg;simp[h8,h9,hg,qcc,qaL,pur,qbd]
     ·simp[gc,Fr.keep,qaf,qae,qad,PV.refs,qah,gcH,qaj,Obj.refs,PV.ren,Obj.ren,Heap.obj,Fr.ren,gh,zzd,←ham,qhE,hd,qgp,qhH]
     ·refine qaM (fun h => ?_) (fun h => ?_)
      ·subst h;simp[↓qbh,↓qbj,↓qbb,↓qa8,qbc,↓qba,↓qbt,↓qbu,↓qa9,↓qbe,↓qbg,qaT,writeS,touchS,qax,qaI,chg,qaZ,qaO,qaE,qaP,PV.refs,IOp.okD,Nat.testBit,↓qtC,↓qtr,qag,c1,c2,qan,qaq,qap,qam,putAt,mkA,qak,qie,qih,qig,qaL,pur,qbd];simp[←ham,qhE,hd,qgp,V2,w64,qhH]
      ·subst h;simp
end Go.Sim
end
section
namespace Go.Sim
attribute [local simp ↓] qbh qbj qbb qbB qbi qbK qa8 qba qbr qbD qbE qbt qbu qa9 qbz qbe qbJ qbG qbU qbT qbg qbI qbH qby qbF qaF qaW qan qaq qap
attribute [local simp] qbc qaT writeS touchS qax qaI chg qaZ qaO qaE qaP PV.refs PV.refsL IOp.okD IOp.barr qbo Nat.testBit putAt mkA qag qak qas qam Fr.ofArgs
set_option maxRecDepth 10000
set_option maxHeartbeats 4000000
theorem qss (T:Tab) (hV:HV T) (v:AValue):T.val 1038 [v.dv]=some (.d (.b (okV v)),false):=by
 have e2:=qst T hV v.N 1000000000000 (by omega) (by omega)
 have e3:=qst T hV v.N 1000000000 (by omega) (by omega)
 have e4:=qob T hV v.N
 rw[qab T (hV 1038 qfW rfl) rfl];unfold okV;by_cases h1:v.Typ=1
 ·simp[qfW,h1]
 ·have g1:=qac h1
  by_cases h2:v.Typ=2
  ·simp[qfW,h2,e2,wth]
  ·have g2:=qac h2
   by_cases h3:v.Typ=3
   ·simp[qfW,h3,e3,wth]
   ·have g3:=qac h3
    by_cases h4:v.Typ=4
    ·simp[qfW,h4,e4,qbq]
    ·have g4:=qac h4
     by_cases h5:v.Typ=5
     ·by_cases c:v.N=0
      ·simp[qfW,h5,c]
      ·have g:=qac c
       by_cases d:v.N=1
       ·simp[qfW,h5,d]
       ·have g':=qac d
        simp[qfW,h5,c,g,d,g']
     ·have g5:=qac h5
      simp[qfW,h1,h2,h3,h4,h5,g1,g2,g3,g4,g5]
def qfB (t z:Int):AValue×Int:=if -9223372036854775808≤z∧z<9223372036854775808∧okV ⟨t,z⟩=true then (⟨t,z⟩,0) else (⟨0,0⟩,6)
theorem qju (T:Tab) (hR:HR T) (hV:HV T) (t z:Int) (h0 : -170141183460469231731687303715884105728≤z) (h1:z<170141183460469231731687303715884105728):T.val 1054 [I t,(Wd z).dv]=some (qal (qfB t z)):=by
 have e1:=qxB T hR z h0 h1
 have e2:=qss T hV ⟨t,z⟩
 have hd:DV.a [I t,I z]=(⟨t,z⟩:AValue).dv:=rfl
 have hd0:DV.a [I 0,I 0]=(⟨0,0⟩:AValue).dv:=rfl
 rw[qab T (hR 1054 qiD rfl) rfl];unfold qfB;by_cases k : -9223372036854775808≤z∧z<9223372036854775808
 ·rw[qfD,if_pos k] at e1;by_cases h:okV ⟨t,z⟩=true
  ·rw[h] at e2;rw[if_pos ⟨k.1,k.2,h⟩];simp[qiD,e1,hd,e2,qal]
  ·have h':okV ⟨t,z⟩=false:=by simpa using h
   rw[h'] at e2;rw[if_neg (fun g=>h g.2.2)]
   simp[qiD,e1,hd,e2,qal,hd0]
 ·rw[qfD,if_neg k] at e1;rw[if_neg (fun g=>k ⟨g.1,g.2.1⟩)]
  simp[qiD,e1,qal,hd0]
theorem qxE (T:Tab) (hR:HR T) (b:Bool):T.val 1066 [.b b]=some (.d (⟨5,if b=true then 1 else 0⟩:AValue).dv,false):=by
 rw[qab T (hR 1066 qkM rfl) rfl];cases b<;>simp[qkM]<;>rfl
end Go.Sim
end
section
namespace Go.Sim
attribute [local simp ↓] qbh qbj qbb qbB qbi qbK qa8 qba qbr qbD qbE qbt qbu qa9 qbz qbe qbJ qbG qbU qbT qbg qbI qbH qby qbF qaF qaW qan qaq qap
attribute [local simp] qbc qaT writeS touchS qax qaI chg qaZ qaO qaE qaP PV.refs PV.refsL IOp.okD IOp.barr qbo Nat.testBit putAt mkA qag qak qas qam Fr.ofArgs
set_option maxRecDepth 10000
set_option maxHeartbeats 4000000
theorem qvW (z n:Int) (n0:0<n):(z/n+if 0<z%n∧decide (n-z%n<z%n∨z%n=n-z%n∧((z/n)%2==1)=true)=true then 1 else 0)=qb1 z n:=by
 unfold qb1 qdQ;have r0:=Int.emod_nonneg z (b:=n) (by omega)
 generalize z/n=q at *
 generalize z%n=r at *
 congr 1
 by_cases c1:n-r<r
 ·rw[if_pos c1,if_pos ⟨by omega,decide_eq_true (.inl c1)⟩]
 ·rw[if_neg c1];by_cases c2:r<n-r
  ·rw[if_pos c2,if_neg];rintro⟨-,h⟩
   have:=of_decide_eq_true h
   omega
  ·rw[if_neg c2];by_cases h:q%2=1
   ·rw[if_pos ⟨by omega,decide_eq_true (.inr ⟨by omega,beq_iff_eq.2 h⟩)⟩,h]
   ·rw[if_neg]
    ·omega
    ·rintro⟨-,h'⟩;rcases of_decide_eq_true h' with g|⟨-,g⟩
     ·exact c1 g
     ·exact h (beq_iff_eq.1 g)
theorem qxD (T:Tab) (hR:HR T) (z n:Int) (h0 : -170141183460469231731687303715884105728<z) (h1:z<170141183460469231731687303715884105728) (n0:0<n) (n1:n<9223372036854775808):T.val 1065 [(Wd z).dv,I n,I 6]=some (qfG (qb1 z n)):=by
 rw[qxC T hR z n 6 _ h0 h1 n0 n1 (by omega) (qIy T hR _ _ _ _ (Int.emod_nonneg z (by omega)) (Int.emod_lt_of_pos z n0) n1),qvW z n n0]
theorem qzw (z n:Int) (n0:0<n):(z/n+if 0<z%n∧decide (z<0)=true then 1 else 0)=z.tdiv n:=by
 have k:=Int.emod_add_mul_ediv z n
 have r0:=Int.emod_nonneg z (b:=n) (by omega)
 have r1:=Int.emod_lt_of_pos z n0
 by_cases h:0≤z
 ·rw[if_neg (fun g=>by have:=of_decide_eq_true g.2;omega),Int.add_zero,Int.tdiv_eq_ediv_of_nonneg h]
 ·rw[decide_eq_true (by omega)]
  have e:z.tdiv n = -((-z)/n):=by
   rw[←Int.tdiv_eq_ediv_of_nonneg (by omega),Int.neg_tdiv,Int.neg_neg]
  rw[e];by_cases g:(-z)%n=0
  ·obtain⟨d1,d2⟩:=qrI n0 g;rw[Int.neg_neg] at d1 d2;rw[d1,d2,if_neg (by omega),Int.add_zero]
  ·obtain⟨d1,d2⟩:=qrJ n0 g;rw[Int.neg_neg] at d1 d2
   have:=Int.emod_lt_of_pos (-z) n0
   rw[d1,if_pos ⟨by omega,rfl⟩]
   omega
theorem qIs (T:Tab) (hR:HR T) (z n:Int) (h0 : -170141183460469231731687303715884105728<z) (h1:z<170141183460469231731687303715884105728) (n0:0<n) (n1:n<9223372036854775808):T.val 1065 [(Wd z).dv,I n,I 1]=some (qfG (z.tdiv n)):=by
 rw[qxC T hR z n 1 _ h0 h1 n0 n1 (by omega) (qIx T hR _ _ _ _),qzw z n n0]
theorem qCZ {x y:Int} (x0 : -9223372036854775808≤x) (x1:x<9223372036854775808) (y0 : -9223372036854775808≤y) (y1:y<9223372036854775808) : -170141183460469231731687303715884105728<x*y:=by
 have ha:=qmL x0 x1
 have hb:=qmL y0 y1
 have p0:0≤aI x*aI y:=Int.mul_nonneg ha.1 hb.1
 have p1:aI x*aI y≤9223372036854775808*9223372036854775808:=qlT ha.2 hb.2 hb.1 (by omega)
 rw[qnH x y];generalize aI x*aI y=P at *
 split<;>omega
theorem qIm (T:Tab) (hR:HR T) (hV:HV T) (t:Int) (a b:AValue) (ha:a.i) (hb:b.i) (ta:0≤a.Typ∧a.Typ≤5) (tb:0≤b.Typ∧b.Typ≤5)
  (hn:a.Typ+b.Typ=5→a.Typ≠b.Typ→-9223372036854775808≤qb1 (a.N*b.N) 1000000∧qb1 (a.N*b.N) 1000000<9223372036854775808) :
  T.val 1056 [I t,a.dv,b.dv]=some (qal (if a.Typ+b.Typ≠5∨a.Typ=b.Typ then qfB t (a.N*b.N) else qfB t (qb1 (a.N*b.N) 1000000))):=by
 have hm:=qvO ha.1 ha.2 hb.1 hb.2
 have e1:=qIr T hR a.N b.N ha.1 ha.2 hb.1 hb.2
 have e2:=qju T hR hV t (a.N*b.N) hm.1 hm.2
 have w:IntKind.i64.wrap (a.Typ+b.Typ)=a.Typ+b.Typ:=wrI (by omega) (by omega)
 rw[qab T (hR 1056 qjx rfl) rfl];unfold qal at *
 by_cases c1:a.Typ+b.Typ=5
 ·by_cases c2:a.Typ=b.Typ
  ·rw[if_pos (.inr c2)];omega
  ·rw[if_neg (fun h=>h.elim (fun h=>h c1) c2)]
   obtain⟨n0,n1⟩:=hn c1 c2;have e3:=qxD T hR (a.N*b.N) 1000000 (qCZ ha.1 ha.2 hb.1 hb.2) hm.2 (by omega) (by omega)
   rw[qfG,if_pos ⟨n0,n1⟩] at e3;have e4:=qgu T hR _ n0 n1
   have e5:=qju T hR hV t (qb1 (a.N*b.N) 1000000) (by omega) (by omega)
   unfold qal at e5;have g2:=qac c2
   rw[c1] at w;have w:IntKind.i64.wrap (a.Typ+b.Typ)=5:=by rw[c1,w]
   simp[qjx,e1,w,g2,bne,e3,e4,e5]
 ·rw[if_pos (.inl c1)];have g1:=qac c1
  simp[qjx,e1,w,g1,bne,e2]
end Go.Sim
end
section
namespace Go.Sim
attribute [local simp ↓] qbh qbj qbb qbB qbi qbK qa8 qba qbr qbD qbE qbt qbu qa9 qbz qbe qbJ qbG qbU qbT qbg qbI qbH qby qbF qaF qaW qan qaq qap
attribute [local simp] qbc qaT writeS touchS qax qaI chg qaZ qaO qaE qaP PV.refs PV.refsL IOp.okD IOp.barr qbo Nat.testBit putAt mkA qag qak qas qam Fr.ofArgs
set_option maxRecDepth 10000
set_option maxHeartbeats 4000000
def qkq (t:Int) (a b:AValue):AValue×Int :=
 if b.N=0 then (⟨0,0⟩,7) else if b.N = -9223372036854775808 then (⟨t,if t=1∧a.N=b.N then 1 else 0⟩,0)
 else qfB t (if t=1 then (if b.N<0 then -a.N else a.N).tdiv (aI b.N) else qb1 (if b.N<0 then -a.N else a.N) (aI b.N))
theorem qxx (T:Tab) (hR:HR T) (_hV:HV T) (t x n:Int) (x0 : -170141183460469231731687303715884105728<x) (x1:x<170141183460469231731687303715884105728) (n0:0<n) (n1:n<9223372036854775808) :
  ∃v e,T.val 1065 [(Wd x).dv,I n,I (if t=1 then 1 else 6)]=some (.t [.d (I v),.d (I e)],false)∧-9223372036854775808≤v∧v<9223372036854775808 ∧
   (e=0∧qfB t (if t=1 then x.tdiv n else qb1 x n)=qfB t v∨e=6∧qfB t (if t=1 then x.tdiv n else qb1 x n)=(⟨0,0⟩,6)):=by
 have e:T.val 1065 [(Wd x).dv,I n,I (if t=1 then 1 else 6)]=some (qfG (if t=1 then x.tdiv n else qb1 x n)):=by
  by_cases h:t=1
  ·rw[if_pos h,if_pos h];exact qIs T hR x n x0 x1 n0 n1
  ·rw[if_neg h,if_neg h];exact qxD T hR x n x0 x1 n0 n1
 rw[e];generalize (if t=1 then x.tdiv n else qb1 x n)=q
 by_cases k : -9223372036854775808≤q∧q<9223372036854775808
 ·exact⟨q,0,by rw[qfG,if_pos k],k.1,k.2,.inl ⟨rfl,rfl⟩⟩
 ·exact⟨0,6,by rw[qfG,if_neg k],by decide,by decide,.inr ⟨rfl,by rw[qfB,if_neg fun g=>k ⟨g.1,g.2.1⟩]⟩⟩
theorem qIn (T:Tab) (hR:HR T) (hV:HV T) (t:Int) (a b:AValue) (ha:a.i) (hb:b.i):T.val 1057 [I t,a.dv,b.dv]=some (qal (qkq t a b)):=by
 unfold AValue.i at ha hb;have hd0:DV.a [I 0,I 0]=(⟨0,0⟩:AValue).dv:=rfl
 have hd : ∀x,DV.a [I t,I x]=(⟨t,x⟩:AValue).dv:=fun _=>rfl
 have hw0:DV.a [I 0,.i .u64 0]=(Wd 0).dv:=rfl
 rw[qab T (hR 1057 qff rfl) rfl];unfold qkq;by_cases c0:b.N=0
 ·rw[if_pos c0];simp[qff,c0,hd0,qal]
 ·have g0:=qac c0
  rw[if_neg c0];by_cases c1:b.N = -9223372036854775808
  ·rw[if_pos c1];by_cases c2:t=1
   ·by_cases c3:a.N=b.N
    ·rw[if_pos ⟨c2,c3⟩];rw[c1] at c3;subst c2;simp[qff,c1,c3,hd,qal]
    ·rw[if_neg fun h=>c3 h.2]
     rw[c1] at c3;have g3:=qac c3
     subst c2;simp[qff,c1,g3,hd,qal]
   ·have g2:=qac c2
    rw[if_neg fun h=>c2 h.1]
    simp[qff,c1,g2,bne,hd,qal]
  ·have g1:=qac c1
   rw[if_neg c1];have e1:=qgu T hR a.N ha.1 ha.2
   by_cases c4:b.N<0
   ·have w:IntKind.i64.wrap (-b.N) = -b.N:=wrI (by omega) (by omega)
    have e2:=qsu T hR 0 a.N (by omega) (by omega) (by omega) (by omega) (by omega) (by omega)
    rw[Int.zero_sub] at e2;obtain⟨v,e,e3,v0,v1,h⟩:=qxx T hR hV t (-a.N) (-b.N) (by omega) (by omega) (by omega) (by omega)
    have e4:=qgu T hR v v0 v1
    have e5:=qju T hR hV t v (by omega) (by omega)
    rw[if_pos c4,qe8 c4];by_cases c2:t=1
    ·rw[if_pos c2] at e3;subst c2;rcases h with ⟨rfl,h⟩|⟨rfl,h⟩
     ·rw[h];unfold qal at *
      simp[qff,g0,g1,e1,c4,w,hw0,e2,e3,bne,e4,e5]
     ·rw[h];unfold qal at *
      simp[qff,g0,g1,e1,c4,w,hw0,e2,e3,bne,hd0]
    ·have g2:=qac c2
     rw[if_neg c2] at e3;rcases h with ⟨rfl,h⟩|⟨rfl,h⟩
     ·rw[h];unfold qal at *
      simp[qff,g0,g1,e1,c4,w,hw0,e2,g2,e3,bne,e4,e5]
     ·rw[h];unfold qal at *
      simp[qff,g0,g1,e1,c4,w,hw0,e2,g2,e3,bne,hd0]
   ·obtain⟨v,e,e3,v0,v1,h⟩:=qxx T hR hV t a.N b.N (by omega) (by omega) (by omega) (by omega)
    have e4:=qgu T hR v v0 v1
    have e5:=qju T hR hV t v (by omega) (by omega)
    rw[if_neg c4,qgS c4];by_cases c2:t=1
    ·rw[if_pos c2] at e3;subst c2;rcases h with ⟨rfl,h⟩|⟨rfl,h⟩
     ·rw[h];unfold qal at *
      simp[qff,g0,g1,e1,c4,e3,bne,e4,e5]
     ·rw[h];unfold qal at *
      simp[qff,g0,g1,e1,c4,e3,bne,hd0]
    ·have g2:=qac c2
     rw[if_neg c2] at e3;rcases h with ⟨rfl,h⟩|⟨rfl,h⟩
     ·rw[h];unfold qal at *
      simp[qff,g0,g1,e1,c4,g2,e3,bne,e4,e5]
     ·rw[h];unfold qal at *
      simp[qff,g0,g1,e1,c4,g2,e3,bne,hd0]
end Go.Sim
end
section
namespace Go.Sim
attribute [local simp ↓] qbh qbj qbb qbB qbi qbK qa8 qba qbr qbD qbE qbt qbu qa9 qbz qbe qbJ qbG qbU qbT qbQ qbg qbI qbH qby qbF qaF qaW qan qaq qap
attribute [local simp] qbc qaT writeS touchS qax qaI chg qaZ qaO qaE qaP PV.refs PV.refsL IOp.okD IOp.barr qbo Nat.testBit putAt mkA qag qak qas qam Fr.ofArgs
set_option maxRecDepth 10000
set_option maxHeartbeats 4000000
def qhG (op x y:Int):Bool :=
 if op=10 then x==y else if op=11 then !(x==y) else if op=12 then decide (x<y) else if op=13 then decide (x≤y)
 else if op=14 then (x==1&&y==1) else if op=15 then (x==1||y==1) else x==0
def trV (b:Bool):AValue:=⟨5,if b=true then 1 else 0⟩
theorem qIp (T:Tab) (hR:HR T) (op:Int) (a b:AValue) (t:Bool):T.val 1059 [I op,.l (K1 2) [a.dv,b.dv] t]=some (.d (trV (qhG op a.N b.N)).dv,false):=by
 have e:=qxE T hR
 have w:IntKind.i64.wrap 1=1:=by decide
 rw[qab T (hR 1059 qfK rfl) rfl];unfold qhG trV;by_cases h1:op=10
 ·subst h1;simp[qfK,e,w]
 ·have g1:=qac h1
  by_cases h2:op=11
  ·subst h2;simp[qfK,e,w,bne]
  ·have g2:=qac h2
   by_cases h3:op=12
   ·subst h3;simp[qfK,e,w]
   ·have g3:=qac h3
    by_cases h4:op=13
    ·subst h4;simp[qfK,e,w]
    ·have g4:=qac h4
     by_cases h5:op=14
     ·subst h5;by_cases c:a.N=1
      ·simp[qfK,e,w,c]
      ·have gc:=qac c
       simp[qfK,e,w,gc]
     ·have g5:=qac h5
      by_cases h6:op=15
      ·subst h6;by_cases c:a.N=1
       ·simp[qfK,e,w,c]
       ·have gc:=qac c
        simp[qfK,e,w,gc]
      ·have g6:=qac h6
       simp[qfK,e,w,h1,h2,h3,h4,h5,h6,g1,g2,g3,g4,g5,g6]
theorem qIq (T:Tab) (hR:HR T) (a:AValue) (t:Bool):T.val 1059 [I 16,.l (K1 2) [a.dv] t]=some (.d (trV (a.N==0)).dv,false):=by
 have e:=qxE T hR
 have w:IntKind.i64.wrap 0=0:=by decide
 rw[qab T (hR 1059 qfK rfl) rfl];unfold trV;simp[qfK,e,w]
end Go.Sim
end
section
namespace Go.Sim
attribute [local simp ↓] qbh qbj qbb qbB qbi qbK qa8 qba qbr qbD qbE qbt qbu qa9 qbz qbe qbJ qbG qbU qbT qbQ qbg qbI qbH qby qbF qaF qaW qan qaq qap
attribute [local simp] qbc qaT writeS touchS qax qaI chg qaZ qaO qaE qaP PV.refs PV.refsL IOp.okD IOp.barr qbo Nat.testBit putAt mkA qag qak qas qam Fr.ofArgs
set_option maxRecDepth 10000
set_option maxHeartbeats 4000000
theorem qIo (T:Tab) (hR:HR T) (c a b:AValue) (t:Bool):T.val 1058 [I 19,.l (K1 2) [c.dv,a.dv,b.dv] t]=some (.d (if c.N=1 then a else b).dv,false):=by
 rw[qab T (hR 1058 qhx rfl) rfl];by_cases h:c.N=1
 ·rw[if_pos h];simp[qhx,h]
 ·have g:=qac h
  rw[if_neg h];simp[qhx,g]
theorem qxy (T:Tab) (hR:HR T) (op:Int) (a b:AValue) (t:Bool) (h9:op≠19):T.val 1058 [I op,.l (K1 2) [a.dv,b.dv] t]=some (.d (if (decide (a.N<b.N)==(op==17))=true then a else b).dv,false):=by
 have g9:=qac h9
 rw[qab T (hR 1058 qhx rfl) rfl];by_cases h:(decide (a.N<b.N)==(op==17))=true
 ·rw[if_pos h];simp[qhx,g9,h]
 ·have g:(decide (a.N<b.N)==(op==17))=false:=by simpa using h
  rw[if_neg h];simp[qhx,g9,g]
end Go.Sim
end
end
section
open Go Go.Proofs Go.Proofs.YtahfohlafjiajaaGreatDoor
namespace Go.Sim
set_option maxRecDepth 100000
set_option maxHeartbeats 4000000
end Go.Sim
end
section
namespace Go.Sim
noncomputable def tabS:PT :=
 (.bin 925 F925 (.bin 859 F859 (.bin 678 qom (.bin 544 qjI (.bin 512 F512 .nil .nil) (.bin 603 F603 .nil .nil)) (.bin 684 qiL (.bin 683 F683 .nil .nil) (.bin 769 qhz .nil .nil))) (.bin 921 F921 (.bin 919 qh2 (.bin 860 F860 .nil .nil) (.bin 920 F920 .nil .nil)) (.bin 923 qjK (.bin 922 F922 .nil .nil) (.bin 924 qk9 .nil .nil)))) (.bin 969 qiM (.bin 953 F953 (.bin 951 qgQ (.bin 950 F950 .nil .nil) (.bin 952 qh3 .nil .nil)) (.bin 955 qce (.bin 954 F954 .nil .nil) (.bin 968 qon .nil .nil))) (.bin 1090 F1090 (.bin 985 qhB (.bin 970 qbS .nil .nil) (.bin 1023 qiC .nil .nil)) (.bin 1095 F1095 (.bin 1094 F1094 .nil .nil) (.bin 1096 F1096 .nil .nil)))))
abbrev HS (T:Tab):Prop:=∀n F,tabS.get n=some F→T.F n=some F
end Go.Sim
end
section
open Go.Sim
attribute [local simp ↓] qd4 qd2 qdU qd3 qdR qdV qdS qdT sqK blK lpK qd9 qd7 qd5 qd8 qd6 qdN qdP qeC qdv qdt qdu qdy qcZ qc0 qcJ qcM qcY qc2 qcL qc3 qcS qcU qcV qcW qc1 qcX qcK qcN qcO qcP qcT qdr qdo qc5 qc4 qdd qc6 qbP qbW qc7 qc8 qeb qcB qea qeA qcE qdj qdk qde qdg qdf qcq qds qcs qda qdn qdi qdh qdc qdb qdm qdp qc9 qdl qdO qcp qcC qdE qeh qcc qdF qct qcu qdq qch qez qcQ qdw qdx qee qeB qec qdW qdX qdY qdZ qd0 qd1 qcR qdD qeF qeS qeT qeQ qeR qeP qeE qeW qeU qe1 qeV qe6 qfh qcr
attribute [local simp] qb3 qef qeg qdI qdJ qdz qdA qex qey qdG qdH rd IOp.adds qaw gh nid rgK rdS qdK qdL qei qej qeo qep qes qen qer qeq qcH qcF qcG qel qek qdC qdB qeu qet qev qew qeJ qeI qeK qbA qeN qeH qeO qe4 qe0 qe3 qe2
section
namespace Go.Sim
attribute [local simp ↓] qbh qbj qbb qbB qbi qbK qa8 qba qbr qbD qbE qbt qbu qa9 qbz qbe qbJ qbG qbU qbT qbQ qbg qbI qbH qby qbF qaF qaW qan qaq qap
attribute [local simp] qbc qaT writeS touchS qax qaI chg qaZ qaO qaE qaP PV.refs PV.refsL IOp.okD IOp.barr qbo Nat.testBit putAt mkA qag qak qas qam Fr.ofArgs
set_option maxRecDepth 10000
set_option maxHeartbeats 4000000
theorem qx1 (T:Tab) (hS:HS T) (t:Int):T.val 924 [I t]=some (.d (.b (qbL t)),false):=by
 rw[qab T (hS 924 qk9 rfl) rfl];unfold qbL;by_cases h:1≤t<;>simp[qk9,h]
def scB (t:Int):Bool:=t==1||(t==2||t==3)
theorem qof (T:Tab) (hS:HS T) (t:Int):T.val 969 [I t]=some (.d (.b (scB t)),false):=by
 rw[qab T (hS 969 qiM rfl) rfl];unfold scB;by_cases h1:t=1
 ·simp[qiM,h1]
 ·have g1:=qac h1
  by_cases h2:t=2
  ·simp[qiM,h2]
  ·have g2:=qac h2
   simp[qiM,g1,g2]
def prR (a b:Int):Int×Bool:=if (scB a&&scB b)=true then (if a=1 then (b,true) else if b=1 then (a,true) else (2,!(a==b))) else (0,false)
theorem qKb (T:Tab) (hS:HS T) (a b:Int):T.val 985 [I a,I b]=some (qaD (prR a b)):=by
 have ea:=qof T hS a
 have eb:=qof T hS b
 rw[qab T (hS 985 qhB rfl) rfl];unfold prR qaD;cases ha:scB a with
 |false =>
  rw[ha] at ea;simp[qhB,ea]
 |true =>
  rw[ha] at ea;cases hb:scB b with
  |false =>
   rw[hb] at eb;simp[qhB,ea,eb]
  |true =>
   rw[hb] at eb;by_cases h1:a=1
   ·subst h1;simp[qhB,ea,eb]
   ·have g1:=qac h1
    by_cases h2:b=1
    ·subst h2;simp[qhB,ea,eb,h1,g1]
    ·have g2:=qac h2
     simp[qhB,ea,eb,h1,g1,h2,g2,bne]
end Go.Sim
end
section
namespace Go.Sim
attribute [local simp ↓] qbh qbj qbb qbB qbi qbK qa8 qba qbr qbD qbE qbt qbu qa9 qbz qbe qbJ qbG qbU qbT qbQ qbg qbI qbH qby qbF qaF qaW qan qaq qap
attribute [local simp] qbc qaT writeS touchS qax qaI chg qaZ qaO qaE qaP PV.refs PV.refsL IOp.okD IOp.barr qbo Nat.testBit putAt mkA qag qak qas qam Fr.ofArgs
set_option maxRecDepth 10000
set_option maxHeartbeats 4000000
def twR (op a b:Int):Int×Bool :=
 if op=5 then (if a=4 then (a,b==1) else (a,a==b&&scB a))
 else if op=6 then (if a=4∧b=4 then (1,true) else if a=4 then (a,b==1) else (a,a==b&&scB a))
 else if op=7 then prR a b
 else if op=8 then (if a=2∧b=2 then (1,true) else (a,scB a&&b==1))
 else if op=10∨op=11 then (5,a==b) else if op=12∨op=13 then (5,a==b && !(a==5))
 else if op=14∨op=15 then (5,a==5&&b==5) else if op=17∨op=18 then (a,a==b && !(a==5)) else (0,false)
theorem qJ5 (T:Tab) (hS:HS T) (op a b:Int):T.val 970 [I op,I a,I b]=some (qaD (twR op a b)):=by
 have ea:=qof T hS a
 have ep:=qKb T hS a b
 rw[qab T (hS 970 qbS rfl) rfl];unfold twR;generalize scB a=s at *
 generalize prR a b=p at *
 unfold qaD at *
 by_cases h5:op=5
 ·subst h5;by_cases c:a=4
  ·subst c;simp[qbS]
  ·have g:=qac c
   by_cases d:a=b
   ·simp[qbS,c,g,←d,ea]
   ·have g':=qac d
    simp[qbS,c,g,g']
 ·have g5:=qac h5
  by_cases h6:op=6
  ·subst h6;by_cases c:a=4
   ·subst c;by_cases d:b=4
    ·subst d;simp[qbS]
    ·have g:=qac d
     simp[qbS,d,g]
   ·have g:=qac c
    by_cases d:a=b
    ·simp[qbS,c,g,←d,ea]
    ·have g':=qac d
     simp[qbS,c,g,g']
  ·have g6:=qac h6
   by_cases h7:op=7
   ·subst h7;simp[qbS,ep]
   ·have g7:=qac h7
    by_cases h8:op=8
    ·subst h8;by_cases c:a=2∧b=2
     ·obtain⟨rfl,rfl⟩:=c;simp[qbS]
     ·rw[if_neg c];by_cases d:a=2
      ·have g:=qac (fun h=>c ⟨d,h⟩ : ¬b=2)
       subst d;cases s<;>simp[qbS,g,ea]
      ·have g:=qac d
       cases s<;>simp[qbS,g,ea]
    ·have g8:=qac h8
     by_cases h10:op=10
     ·subst h10;simp[qbS]
     ·have g10:=qac h10
      by_cases h11:op=11
      ·subst h11;simp[qbS]
      ·have g11:=qac h11
       by_cases h12:op=12
       ·subst h12;by_cases d:a=b
        ·simp[qbS,←d,bne]
        ·have g:=qac d
         simp[qbS,g]
       ·have g12:=qac h12
        by_cases h13:op=13
        ·subst h13;by_cases d:a=b
         ·simp[qbS,←d,bne]
         ·have g:=qac d
          simp[qbS,g]
        ·have g13:=qac h13
         by_cases h14:op=14
         ·subst h14;by_cases d:a=5
          ·simp[qbS,d]
          ·have g:=qac d
           simp[qbS,g]
         ·have g14:=qac h14
          by_cases h15:op=15
          ·subst h15;by_cases d:a=5
           ·simp[qbS,d]
           ·have g:=qac d
            simp[qbS,g]
          ·have g15:=qac h15
           by_cases h17:op=17
           ·subst h17;by_cases d:a=b
            ·simp[qbS,←d,bne]
            ·have g:=qac d
             simp[qbS,g]
           ·have g17:=qac h17
            by_cases h18:op=18
            ·subst h18;by_cases d:a=b
             ·simp[qbS,←d,bne]
             ·have g:=qac d
              simp[qbS,g]
            ·have g18:=qac h18
             rw[if_neg h5,if_neg h6,if_neg h7,if_neg h8,if_neg (fun h=>h.elim h10 h11),if_neg (fun h=>h.elim h12 h13),if_neg (fun h=>h.elim h14 h15),if_neg (fun h=>h.elim h17 h18)]
             simp[qbS,g5,g6,g7,g8,g10,g11,g12,g13,g14,g15,g17,g18]
theorem qH1 (op a b:Int) (ha:qbL a=true) (hb:qbL b=true) (ho:5≤op∧op≤18):(twR op a b).2=(qbl op a b).2∧((twR op a b).2=true→(twR op a b).1=(qbl op a b).1):=by
 have key : ∀o:Fin 14,∀x y:Fin 5,(twR (o.val+5:Nat) (x.val+1:Nat) (y.val+1:Nat)).2=(qbl (o.val+5:Nat) (x.val+1:Nat) (y.val+1:Nat)).2∧((twR (o.val+5:Nat) (x.val+1:Nat) (y.val+1:Nat)).2=true→(twR (o.val+5:Nat) (x.val+1:Nat) (y.val+1:Nat)).1=(qbl (o.val+5:Nat) (x.val+1:Nat) (y.val+1:Nat)).1):=by decide +kernel
 simp only[qbL,zzf,zzq] at ha hb;have k:=key ⟨(op-5).toNat,by omega⟩ ⟨(a-1).toNat,by omega⟩ ⟨(b-1).toNat,by omega⟩
 simp only[show (((op-5).toNat+5:Nat):Int)=op by omega,show (((a-1).toNat+1:Nat):Int)=a by omega,show (((b-1).toNat+1:Nat):Int)=b by omega] at k
 exact k
end Go.Sim
end
section
namespace Go.Sim
attribute [local simp ↓] qbh qbj qbb qbB qbi qbK qa8 qba qbr qbD qbE qbt qbu qa9 qbz qbe qbJ qbG qbU qbT qbQ qbg qbI qbH qby qbF qaF qaW qan qaq qap
attribute [local simp] qbc qaT writeS touchS qax qaI chg qaZ qaO qaE qaP PV.refs PV.refsL IOp.okD IOp.barr qbo Nat.testBit putAt mkA qag qak qas qam Fr.ofArgs
set_option maxRecDepth 10000
set_option maxHeartbeats 4000000
theorem qJ1 (T:Tab) (hS:HS T) (op a:Int) (t:Bool):T.val 955 [I op,.l K0 [I a] t]=some (qaD (if op=9 then (a,scB a) else if op=16 then (5,a==5) else (0,false))):=by
 have ea:=qof T hS a
 rw[qab T (hS 955 qce rfl) rfl];unfold qaD;by_cases h9:op=9
 ·subst h9;simp[qce,ea]
 ·have g9:=qac h9
  by_cases h16:op=16
  ·subst h16;simp[qce]
  ·have g16:=qac h16
   by_cases h19:op=19
   ·subst h19;simp[qce]
   ·have g19:=qac h19
    simp[qce,h9,h16,g9,g16,g19]
theorem qJ2 (T:Tab) (hS:HS T) (op a b:Int) (t:Bool):T.val 955 [I op,.l K0 [I a,I b] t]=some (qaD (twR op a b)):=by
 have e:=qJ5 T hS op a b
 rw[qab T (hS 955 qce rfl) rfl];generalize twR op a b=p at *
 unfold qaD at *
 by_cases h9:op=9
 ·subst h9;simp[qce,e]
 ·have g9:=qac h9
  by_cases h16:op=16
  ·subst h16;simp[qce,e]
  ·have g16:=qac h16
   by_cases h19:op=19
   ·subst h19;simp[qce,e]
   ·have g19:=qac h19
    simp[qce,e,g9,g16,g19]
theorem qJ3 (T:Tab) (hS:HS T) (op a b c:Int) (t:Bool):T.val 955 [I op,.l K0 [I a,I b,I c] t]=some (qaD (if op=19 then (b,a==5&&b==c) else (0,false))):=by
 rw[qab T (hS 955 qce rfl) rfl];unfold qaD;by_cases h9:op=9
 ·subst h9;simp[qce]
 ·have g9:=qac h9
  by_cases h16:op=16
  ·subst h16;simp[qce]
  ·have g16:=qac h16
   by_cases h19:op=19
   ·subst h19;by_cases d:a=5
    ·simp[qce,d]
    ·have g:=qac d
     simp[qce,g]
   ·have g19:=qac h19
    simp[qce,h19,g9,g16,g19]
end Go.Sim
end
section
namespace Go.Sim
attribute [local simp ↓] qbh qbj qbb qbB qbi qbK qa8 qba qbr qbD qbE qbt qbu qa9 qbz qbe qbJ qbG qbU qbT qbQ qbg qbI qbH qby qbF qaF qaW qan qaq qap
attribute [local simp] qbc qaT writeS touchS qax qaI chg qaZ qaO qaE qaP PV.refs PV.refsL IOp.okD IOp.barr qbo Nat.testBit putAt mkA qag qak qas qam Fr.ofArgs
set_option maxRecDepth 10000
set_option maxHeartbeats 4000000
theorem qBt (T:Tab) (hS:HS T) (op:Int) (z:List Int) (t:Bool) (hn:z.length≤maxLen) {k:KC (PV×Bool)} {r:Option (PV×Bool)} {fr:Fr} {H:Heap} (hr : ∀fr H,fr.get 4 = .d (I 0)→fr.get 5 = .d (.b false)→qar fr=[]→k .ret fr H=r)
  (h0:gc [0,1,6] 0 ⟨fr,H⟩=⟨[(6,.d (I 0)),(1,.d (.l K0 (z.map fun n=>I n) t)),(0,.d (I op))],[]⟩) :
  kC T.env 0 fr H (.h (.loop [0,1,6] qmF,k))=if z.all qbL=true then k (.exit 0) ((15,.d (.b false))::[(6,.d (I z.length)),(1,.d (.l K0 (z.map fun n=>I n) t)),(0,.d (I op))]) [] else r:=by
 rw[qbY z (fun i _=>⟨[(6,.d (I i)),(1,.d (.l K0 (z.map fun n=>I n) t)),(0,.d (I op))],[]⟩) (fun _ _=>True) (fun i _ p c=>if qbL p=true then c () else r) (fun _=>k (.exit 0) ((15,.d (.b false))::[(6,.d (I z.length)),(1,.d (.l K0 (z.map fun n=>I n) t)),(0,.d (I op))]) []) ?_ ?_ h0 trivial]
 ·rw[ql7 qbL r];exact fun _ _ _ _=>rfl
 ·intro B _ _ _;simp
 ·intro B _ i _ hi _ c hc;have hm:=mxl
  have h1:(i:Int)<z.length:=by omega
  have h3:=wr1 (i:=i) (by omega)
  have e:=qx1 T hS z[i]
  cases hk:qbL z[i] with
  |true =>
   rw[hk] at e;simp[h1,hi,e,h3];exact hc () _ _ trivial (by simp[gc,Fr.keep,qaf,qae,qad,PV.refs,gcH,PV.ren,Obj.ren,Heap.obj,Fr.ren,gh])
  |false =>
   rw[hk] at e;simp[h1,hi,e];exact hr _ _ (by simp[Fr.get]) (by simp[Fr.get]) (by simp[qar,gh])
end Go.Sim
end
section
namespace Go.Sim
attribute [local simp ↓] qbh qbj qbb qbB qbi qbK qa8 qba qbr qbD qbE qbt qbu qa9 qbz qbe qbJ qbG qbU qbT qbQ qbg qbI qbH qby qbF qaF qaW qan qaq qap
attribute [local simp] qbc qaT writeS touchS qax qaI chg qaZ qaO qaE qaP PV.refs PV.refsL IOp.okD IOp.barr qbo Nat.testBit putAt mkA qag qak qas qam Fr.ofArgs
set_option maxRecDepth 10000
set_option maxHeartbeats 4000000
theorem qJ0 (T:Tab) (hS:HS T) (op:Int) (t:Bool):T.val 955 [I op,.l K0 [] t]=some (qaD (0,false)):=by
 rw[qab T (hS 955 qce rfl) rfl];unfold qaD;by_cases h9:op=9
 ·subst h9;simp[qce]
 ·have g9:=qac h9
  by_cases h16:op=16
  ·subst h16;simp[qce]
  ·have g16:=qac h16
   by_cases h19:op=19
   ·subst h19;simp[qce]
   ·have g19:=qac h19
    simp[qce,g9,g16,g19]
theorem qx2 (T:Tab) (hS:HS T) (op:Int) (ts:List Int) (t:Bool) (hn:ts.length≤3) (ho:5≤op∧op≤19):T.val 925 [I op,.l K0 (ts.map fun n=>I n) t]=some (qaD (qaV op ts)):=by
 have hm:=mxl
 rw[qab T (hS 925 F925 rfl) rfl];have lp:=fun k fr H => @qBt T hS op ts t (by omega) k (some (qaD (0,false))) fr H
 obtain⟨r,hr⟩ : ∃r,some (qaD (qaV op ts))=r:=⟨_,rfl⟩;rw[hr];unfold qaV at hr;have c : ¬(3:Int)<ts.length:=by omega
 simp[F925,c];rw[lp]
 ·by_cases ha:ts.all qbL=true
  ·rw[if_pos ha] at hr⊢;rw[←hr];clear hr lp
   simp only[blK,sqK];match ts,hn,ha with
   | [],_,_ =>
    show _=some (qaD (0,false))
    have e:=qJ0 T hS op t
    unfold qaD at *
    simp[e]
   | [a],_,ha =>
    show _=some (qaD (if (qb8 op a).2=true then ((qb8 op a).1,true) else (0,false)))
    have e:=qJ1 T hS op a t
    have q:(if op=9 then (a,scB a) else if op=16 then (5,a==5) else (0,false))=qb8 op a:=by
     unfold qb8 scB;by_cases h9:op=9
     ·subst h9;rfl
     ·by_cases h16:op=16
      ·subst h16;rfl
      ·rw[if_neg h9,if_neg h16,if_neg h16,if_neg h9]
    rw[q] at e;unfold qaD at *
    generalize qb8 op a=p at *
    obtain⟨p1,p2⟩:=p;cases p2 with
    |true=>simp[e]
    |false=>simp[e]
   | [a,b],_,ha =>
    show _=some (qaD (if (qbl op a b).2=true then ((qbl op a b).1,true) else (0,false)))
    have e:=qJ2 T hS op a b t
    have q:(twR op a b).2=(qbl op a b).2∧((twR op a b).2=true→(twR op a b).1=(qbl op a b).1):=by
     simp only[List.all_cons,List.all_nil,Bool.and_true,zzf] at ha;by_cases h:op≤18
     ·exact qH1 op a b ha.1 ha.2 ⟨ho.1,h⟩
     ·have h:op=19:=by omega
      subst h;have g:arF arL 19 a b=none:=by simp[arL,arF]
      exact⟨by simp[twR,qbl,arV,g],fun h=>by cases h⟩
    obtain⟨q1,q2⟩:=q;unfold qaD at *
    generalize twR op a b=p at *
    obtain⟨p1,p2⟩:=p;generalize qbl op a b=z at *
    obtain⟨z1,z2⟩:=z;simp only at q1 q2;subst q1;cases p2 with
    |true=>have q2:=q2 rfl;subst q2;simp[e]
    |false=>simp[e]
   | [a,b,d],_,ha =>
    show _=some (qaD (if op=19∧a=5∧b=d then (b,true) else (0,false)))
    have e:=qJ3 T hS op a b d t
    unfold qaD at *
    by_cases h:op=19∧a=5∧b=d
    ·obtain⟨rfl,rfl,rfl⟩:=h;simp at e;simp[e]
    ·rw[if_neg h];by_cases h9:op=19
     ·have g:(a==5&&b==d)=false:=by
       by_cases h5:a=5
       ·have:=qac (fun k=>h ⟨h9,h5,k⟩ : ¬b=d)
        simp[this]
       ·have:=qac h5
        simp[this]
      rw[if_pos h9,g] at e;simp[e]
     ·rw[if_neg h9] at e;simp[e]
  ·rw[if_neg ha] at hr⊢;exact hr
 ·intro fr H h4 h5 h6;simp[blK,sqK,h4,h5,h6,qaD]
 ·simp[gc,Fr.keep,qaf,qae,qad,PV.refs,gcH,PV.ren,Obj.ren,Heap.obj,Fr.ren,gh]
end Go.Sim
end
end
section
namespace Go.Sim
def qha (t:Int) (p:Int×Int):AValue×Int:=if p.2=0 then (if okV ⟨t,p.1⟩=true then (⟨t,p.1⟩,0) else (⟨0,0⟩,6)) else (⟨0,0⟩,p.2)
theorem qi6 (t z:Int):qfB t z=qha t (qbZ z):=by
 unfold qfB qha qbZ;by_cases h : -9223372036854775808≤z∧z<9223372036854775808
 ·rw[if_pos h];by_cases k:okV ⟨t,z⟩=true
  ·rw[if_pos ⟨h.1,h.2,k⟩,if_pos rfl,if_pos k]
  ·rw[if_neg (fun g=>k g.2.2),if_pos rfl,if_neg k]
 ·rw[if_neg h,if_neg (fun g=>h ⟨g.1,g.2.1⟩)]
  rfl
theorem qkv {t:Int} (h:scB t=true):t=1∨t=2∨t=3:=by
 simp only[scB,Bool.or_eq_true,beq_iff_eq] at h;exact h
theorem qGT (t:Int) (a b:AValue) (ha:scB a.Typ=true) (hb:scB b.Typ=true) :
  (if a.Typ+b.Typ≠5∨a.Typ=b.Typ then qfB t (a.N*b.N) else qfB t (qb1 (a.N*b.N) 1000000))=qha t (qis a b):=by
 have ha:=qkv ha
 have hb:=qkv hb
 unfold qis;by_cases h:a.Typ=b.Typ∨a.Typ=1∨b.Typ=1
 ·rw[if_pos h,if_pos (by omega),qi6]
 ·rw[if_neg h,if_neg (by omega),qi6]
theorem qrM {v:AValue} (h:okV v=true) (h2:v.Typ=2∨v.Typ=3) : -1000000000000≤v.N∧v.N≤1000000000000:=by
 unfold okV at h;rcases h2 with h2|h2
 ·rw[if_neg (by omega),if_pos h2] at h;simp at h;omega
 ·rw[if_neg (by omega),if_neg (by omega),if_pos h2] at h;simp at h;omega
end Go.Sim
end
section
namespace Go.Sim
theorem qHS (a b:Int):(if b<0 then -a else a).tdiv (aI b)=a.tdiv b:=by
 by_cases h:b<0
 ·rw[if_pos h,qe8 h,Int.neg_tdiv,Int.tdiv_neg,Int.neg_neg]
 ·rw[if_neg h,qgS h]
theorem qG2 (t:Int) (a b:AValue) (ha:a.i) (hb:b.i) (h0:b.N≠0) (ht:t=1↔a.Typ=b.Typ) (ht2:t=1∨t=2∨t=3) (hn:a.Typ≠b.Typ→-1000000000000≤a.N∧a.N≤1000000000000):qkq t a b=qha t (qhq a b):=by
 unfold AValue.i at ha hb;unfold qkq;rw[if_neg h0];have k1 : ∀x,okV ⟨1,x⟩=true:=fun _=>rfl
 by_cases h:a.Typ=b.Typ
 ·have h1:=ht.2 h
  subst h1;rw[if_pos rfl,qHS];unfold qhq;rw[if_pos h];by_cases c:b.N = -9223372036854775808
  ·rw[if_pos c,c];by_cases d:a.N = -9223372036854775808
   ·rw[d,if_pos ⟨rfl,rfl⟩,if_neg (by decide)];rfl
   ·rw[if_neg (fun h=>d h.2),if_neg (fun h=>d h.1)]
    have e:a.N.tdiv (-9223372036854775808)=0:=by
     rw[Int.tdiv_neg];by_cases g:0≤a.N
     ·rw[Int.tdiv_eq_zero_of_lt g (by omega)];rfl
     ·have:(-a.N).tdiv 9223372036854775808=0:=Int.tdiv_eq_zero_of_lt (by omega) (by omega)
      rw[Int.neg_tdiv] at this;omega
    rw[e];rfl
  ·rw[if_neg c,qi6];by_cases d:a.N = -9223372036854775808∧b.N = -1
   ·rw[if_pos d,d.1,d.2];rfl
   ·rw[if_neg d];have hl:(a.N.tdiv b.N).natAbs≤a.N.natAbs:=by rw[Int.natAbs_tdiv];exact Nat.div_le_self _ _
    have hx:a.N.tdiv b.N≠9223372036854775808:=by
     intro hq;have h2:(a.N.tdiv b.N).natAbs=a.N.natAbs/b.N.natAbs:=Int.natAbs_tdiv _ _
     rw[hq] at h2;have h3:a.N.natAbs≤9223372036854775808:=by omega
     have h4:b.N.natAbs=1:=by
      rcases (show b.N.natAbs=1∨2≤b.N.natAbs by omega) with g|g
      ·exact g
      ·have:=Nat.div_le_div_left (a:=a.N.natAbs) g (show 0<2 by decide)
       omega
     have h5:b.N=1∨b.N = -1:=by omega
     rcases h5 with h5|h5
     ·rw[h5,Int.tdiv_one] at hq;omega
     ·rw[h5,Int.tdiv_neg,Int.tdiv_one] at hq;exact d ⟨by omega,h5⟩
    rw[wrI (by omega) (by omega),qbZ,if_pos (by omega)]
 ·have h1:t≠1:=fun k=>h (ht.1 k)
  have hn:=hn h
  unfold qhq;rw[if_neg h,if_neg (fun k=>h1 k)]
  by_cases c:b.N = -9223372036854775808
  ·rw[if_pos c,if_pos c,if_neg (fun k=>h1 k.1)]
   rcases ht2 with rfl|rfl|rfl
   ·exact absurd rfl h1
   ·rfl
   ·rfl
  ·rw[if_neg c,if_neg c,qi6];by_cases d:b.N<0
   ·rw[if_pos d,if_pos d,qe8 d,wrI (by omega) (by omega)]
   ·rw[if_neg d,if_neg d,qgS d]
end Go.Sim
end
section
open Go.Sim
attribute [local simp ↓] qd4 qd2 qdU qd3 qdR qdV qdS qdT sqK blK lpK qd9 qd7 qd5 qd8 qd6 qdN qdP qeC qdv qdt qdu qdy qcZ qc0 qcJ qcM qcY qc2 qcL qc3 qcS qcU qcV qcW qc1 qcX qcK qcN qcO qcP qcT qdr qdo qc5 qc4 qdd qc6 qbP qbW qc7 qc8 qeb qcB qea qeA qcE qdj qdk qde qdg qdf qcq qds qcs qda qdn qdi qdh qdc qdb qdm qdp qc9 qdl qdO qcp qcC qdE qeh qcc qdF qct qcu qdq qch qez qcQ qdw qdx qee qeB qec qdW qdX qdY qdZ qd0 qd1 qcR qdD qeF qeS qeT qeQ qeR qeP qeE qeW qeU qe1 qeV qe6 qfh qcr
attribute [local simp] qb3 qef qeg qdI qdJ qdz qdA qex qey qdG qdH rd IOp.adds qaw gh nid rgK rdS qdK qdL qei qej qeo qep qes qen qer qeq qcH qcF qcG qel qek qdC qdB qeu qet qev qew qeJ qeI qeK qbA qeN qeH qeO qe4 qe0 qe3 qe2
section
namespace Go.Sim
attribute [local simp] gc Fr.keep qaf qae qad PV.refs PV.refsL qah gcH qaj Obj.refs PV.ren PV.renL Obj.ren Heap.obj Fr.ren gh zzd
attribute [local simp ↓] qbh qbj qbb qbB qbi qbK qa8 qba qbr qbD qbE qbt qbu qa9 qbz qbe qbJ qbG qbU qbT qbQ qbg qbI qbH qby qbF qaF qaW qan qaq qap
attribute [local simp] qbc qaT writeS touchS qax qaI chg qaZ qaO qaE qaP PV.refs PV.refsL IOp.okD IOp.barr qbo Nat.testBit putAt mkA qag qak qas qam Fr.ofArgs
attribute [local simp] qb9 qir qbf
set_option maxRecDepth 10000
set_option maxHeartbeats 4000000
theorem qBL (T:Tab) (op:Int) (vs:List AValue) (t:Bool) (z:DV) (hn:vs.length*56≤140737488355328) {k:KC (PV×Bool)} {r:Option (PV×Bool)} {fr:Fr} {H:Heap}
  (he:k (.exit 0) [(22,.d (.b false)),(7,.d (I vs.length)),(6,qao K0 (vs.map fun v=>I v.Typ)),(4,pB 0 (vs.map fun v=>I v.Typ)),(1,.d (.l (K1 2) (vs.map AValue.dv) t)),(0,.d (I op))] (qaK K0 [some (.box (K1 2) (.d z))] (vs.map fun v=>I v.Typ))=r)
  (h0:gc [0,1,4,6,7] 0 ⟨fr,H⟩=⟨[(7,.d (I 0)),(6,.d (.l K0 [] true)),(4,.p 0 0 0),(1,.d (.l (K1 2) (vs.map AValue.dv) t)),(0,.d (I op))],[some (.box (K1 2) (.d z))]⟩) :
  kC T.env 0 fr H (.h (.loop [0,1,4,6,7] qmr,k))=r:=by
 refine qgo (fun p:Nat×List DV=>⟨[(7,.d (I p.1)),(6,qao K0 p.2),(4,pB 0 p.2),(1,.d (.l (K1 2) (vs.map AValue.dv) t)),(0,.d (I op))],qaK K0 [some (.box (K1 2) (.d z))] p.2⟩) (fun i=>(i,(vs.take i).map fun v=>I v.Typ)) vs.length ?_ ?_ (by rw[h0];rfl)
 ·intro B _;simp only[List.take_length];rw[←he];have h1 : ¬((vs.length:Int)<vs.length):=by omega
  simp
 ·intro B _ i hi c hc;have h1:(i:Int)<vs.length:=by omega
  have h3:=wr1 (i:=i) (by omega)
  have hl:((vs.take i).map fun v=>I v.Typ).length≤i:=by simp;omega
  simp only[qkw (fun v:AValue=>I v.Typ) vs i hi] at hc
  simp only;generalize (vs.take i).map (fun v=>I v.Typ)=o at *
  cases o with
  |nil =>
   simp only[qao,qaK,pB,List.nil_append] at hc⊢;simp[h1,hi,h3];exact hc _ _ (by simp)
  |cons x o =>
   simp only[qao,qaK,pB,List.cons_append] at hc⊢;simp only[zzn] at hl;have h5:(o.length+1+1)*8≤140737488355328:=by omega
   have ht:o.take o.length=o:=List.take_of_length_le (by simp)
   simp[h1,hi,h3,h5,ht];exact hc _ _ (by simp)
theorem qBM (T:Tab) (hV:HV T) (op w:Int) (vs:List AValue) (t:Bool) (z:DV) (hn:vs.length*56≤140737488355328) {k:KC (PV×Bool)} {r:Option (PV×Bool)} {fr:Fr} {H:Heap}
  (he:vs.all okV=true→k (.exit 2) [(50,.d (.b false)),(10,.d (I vs.length)),(8,.d (I w)),(4,.p 0 0 0),(1,.d (.l (K1 2) (vs.map AValue.dv) t)),(0,.d (I op))] [some (.box (K1 2) (.d z))]=r)
  (hr:vs.all okV=false→∀fr J,fr.get 4 = .p 0 0 0→fr.get 5 = .d (I 1)→qar fr=[]→k .ret fr (some (.box (K1 2) (.d (.a [I 0,I 0])))::J)=r)
  (h0:gc [0,1,4,8,10] 0 ⟨fr,H⟩=⟨[(10,.d (I 0)),(8,.d (I w)),(4,.p 0 0 0),(1,.d (.l (K1 2) (vs.map AValue.dv) t)),(0,.d (I op))],[some (.box (K1 2) (.d z))]⟩) :
  kC T.env 0 fr H (.h (.loop [0,1,4,8,10] qms,k))=r:=by
 refine qbN (fun i:Nat=>⟨[(10,.d (I i)),(8,.d (I w)),(4,.p 0 0 0),(1,.d (.l (K1 2) (vs.map AValue.dv) t)),(0,.d (I op))],[some (.box (K1 2) (.d z))]⟩) (fun i=>i≤vs.length∧(vs.take i).all okV=true) (fun i=>vs.length-i) ?_ 0 ⟨Nat.zero_le _,by simp⟩ h0
 rintro B-i ⟨hi,ha⟩ hx;by_cases hlt:i<vs.length
 ·have h1:(i:Int)<vs.length:=by omega
  have h3:=wr1 (i:=i) (by omega)
  have e:=qss T hV vs[i]
  cases hk:okV vs[i] with
  |true =>
   rw[hk] at e;have hx':=hx (i+1) ⟨by omega,by rw[List.take_succ_eq_append_getElem hlt,List.all_append,ha];simp[hk]⟩ (by omega)
   simp[h1,hlt,e,h3];exact hx' _ _ (by simp)
  |false =>
   rw[hk] at e;have hf:vs.all okV=false:=by
    rw[List.all_eq_false];exact⟨vs[i],zzs hlt,by simp[hk]⟩
   have hr':=hr hf
   simp[h1,hlt,e];exact hr' _ _ (by simp[Fr.get]) (by simp[Fr.get]) (by simp[qar,gh])
 ·have:i=vs.length:=by omega
  subst this;rw[List.take_length] at ha;have he':=he ha
  have h1 : ¬((vs.length:Int)<vs.length):=by omega
  simp;exact he'
theorem qwN {op:Int} {ts:List Int} (h:(qaV op ts).2=true):5≤op∧op≤19∧ts.length≤3:=by
 unfold qaV at h;by_cases ha:ts.all qbL=true
 ·rw[if_pos ha] at h;match ts,h with
  | [],h=>cases h
  | [a],h =>
   have ho:(qb8 op a).2=true:=by
    by_cases c:(qb8 op a).2=true
    ·exact c
    ·simp only at h;rw[if_neg c] at h;cases h
   have:=qnJ ho
   exact⟨by omega,by omega,by simp⟩
  | [a,b],h =>
   have ho:(qbl op a b).2=true:=by
    by_cases c:(qbl op a b).2=true
    ·exact c
    ·simp only at h;rw[if_neg c] at h;cases h
   unfold qbl at ho;refine⟨?_,?_,by simp⟩<;>(
    by_cases h1:op=10∨op=11
    ·omega
    rw[if_neg h1] at ho;by_cases h2:op=12∨op=13
    ·omega
    rw[if_neg h2] at ho;by_cases h3:op=14∨op=15
    ·omega
    rw[if_neg h3] at ho;by_cases h4:op=17∨op=18
    ·omega
    rw[if_neg h4] at ho
    have:=qpe (show arV op a b≠0 by simpa using ho)
    omega)
  | [a,b,c],h =>
   simp only at h;by_cases c':op=19∧a=5∧b=c
   ·exact⟨by omega,by omega,by simp⟩
   ·rw[if_neg c'] at h;cases h
  | _::_::_::_::_,h=>cases h
 ·rw[if_neg ha] at h;cases h
theorem qvV {z:Int} (h0 : -1000000000000000000000≤z) (h1:z≤1000000000000000000000) : -9223372036854775808≤qb1 z 1000000∧qb1 z 1000000<9223372036854775808:=by
 rw[←qvW z 1000000 (by omega)]
 split<;>omega
theorem ar7 : ∀a∈[1,2,3,4,5],∀b∈[1,2,3,4,5],arV 7 a b≠0→scB a=true∧scB b=true:=by decide
theorem ar8 : ∀a∈[1,2,3,4,5],∀b∈[1,2,3,4,5],arV 8 a b≠0→(arV 8 a b=1↔a=b)∧(arV 8 a b=1∨arV 8 a b=2∨arV 8 a b=3)∧(a=b∨a=2∨a=3):=by decide
theorem qve {t:Int} (h:qbL t=true):t∈[1,2,3,4,5]:=by
 simp only[qbL,zzf,zzq] at h;simp only[List.mem_cons,List.not_mem_nil,or_false];omega
theorem qxp {op a b:Int} (ho:5≤op∧op≤8):qbl op a b=(arV op a b,!decide (arV op a b=0)):=by
 unfold qbl;rw[if_neg (by omega),if_neg (by omega),if_neg (by omega),if_neg (by omega)]
theorem qvP {x y A B:Int} (x0 : -A≤x) (x1:x≤A) (y0 : -B≤y) (y1:y≤B) (hA:0≤A) : -(A*B)≤x*y∧x*y≤A*B:=by
 have h:x.natAbs*y.natAbs≤A.natAbs*B.natAbs:=Nat.mul_le_mul (by omega) (by omega)
 have e1:(x*y).natAbs=x.natAbs*y.natAbs:=Int.natAbs_mul x y
 have e2:(A*B).natAbs=A.natAbs*B.natAbs:=Int.natAbs_mul A B
 have hB:0≤A*B:=Int.mul_nonneg hA (by omega)
 omega
theorem qGR {a b:AValue} (ha:okV a=true) (hb:okV b=true) (s1:scB a.Typ=true) (s2:scB b.Typ=true) (h5:a.Typ+b.Typ=5) (_hn:a.Typ≠b.Typ) : -9223372036854775808≤qb1 (a.N*b.N) 1000000∧qb1 (a.N*b.N) 1000000<9223372036854775808:=by
 have s1:=qkv s1
 have s2:=qkv s2
 have q : ∀v:AValue,okV v=true→v.Typ=3→-1000000000≤v.N∧v.N≤1000000000:=by
  intro v h ht;unfold okV at h;rw[if_neg (by omega),if_neg (by omega),if_pos ht] at h
  simpa using h
 rcases (show a.Typ=2∧b.Typ=3∨a.Typ=3∧b.Typ=2 by omega) with h|h
 ·have k1:=qrM ha (.inl h.1)
  have k2:=q b hb h.2
  have:=qvP k1.1 k1.2 k2.1 k2.2 (by omega)
  exact qvV (by omega) (by omega)
 ·have k1:=qrM hb (.inl h.2)
  have k2:=q a ha h.1
  have:=qvP k2.1 k2.2 k1.1 k1.2 (by omega)
  exact qvV (by omega) (by omega)
theorem qGA {op:Int} {a:AValue} (h:(qaV op [a.Typ]).2=true) (ha:okV a=true):(op=9∧(qaV op [a.Typ]).1=a.Typ)∨(op=16∧qbx (qaV op [a.Typ]).1 true op [a]=(trV (a.N==0),0)):=by
 unfold qaV at h⊢;by_cases hk:[a.Typ].all qbL=true
 ·rw[if_pos hk] at h⊢;simp only at h⊢;have ho:(qb8 op a.Typ).2=true:=by
   by_cases c:(qb8 op a.Typ).2=true
   ·exact c
   ·rw[if_neg c] at h;cases h
  rw[if_pos ho];rcases qnJ ho with rfl|rfl
  ·exact .inl ⟨rfl,rfl⟩
  ·refine .inr ⟨rfl,?_⟩;have h5:a.Typ=5:=by simpa[qb8] using ho
   have h01:a.N=0∨a.N=1:=by simpa[okV,h5] using ha
   have e:qb8 16 a.Typ=(5,decide (a.Typ=5)):=rfl
   rw[e];unfold qbx trV chP;rcases h01 with h|h<;>simp[h,ha]<;>decide
 ·rw[if_neg hk] at h;cases h
theorem qH2 {op:Int} {a b:AValue} (h:(qaV op [a.Typ,b.Typ]).2=true) (ha:okV a=true) (hb:okV b=true) :
  op=5∨op=6∨(op=7∧scB a.Typ=true∧scB b.Typ=true)∨(op=8∧((qaV op [a.Typ,b.Typ]).1=1↔a.Typ=b.Typ)∧((qaV op [a.Typ,b.Typ]).1=1∨(qaV op [a.Typ,b.Typ]).1=2∨(qaV op [a.Typ,b.Typ]).1=3)∧(a.Typ=b.Typ∨a.Typ=2∨a.Typ=3)) ∨
  (op=17∧qbx (qaV op [a.Typ,b.Typ]).1 true op [a,b]=(if (decide (a.N<b.N)==(op==17))=true then a else b,0))∨(op=18∧qbx (qaV op [a.Typ,b.Typ]).1 true op [a,b]=(if (decide (a.N<b.N)==(op==17))=true then a else b,0)) ∨
  (10≤op∧op≤15∧qbx (qaV op [a.Typ,b.Typ]).1 true op [a,b]=(trV (qhG op a.N b.N),0)):=by
 unfold qaV at h⊢;by_cases hk:[a.Typ,b.Typ].all qbL=true
 ·rw[if_pos hk] at h⊢;simp only at h⊢;have ho:(qbl op a.Typ b.Typ).2=true:=by
   by_cases c:(qbl op a.Typ b.Typ).2=true
   ·exact c
   ·rw[if_neg c] at h;cases h
  rw[if_pos ho];simp only[List.all_cons,List.all_nil,Bool.and_true,zzf] at hk;have ka:=qve hk.1
  have kb:=qve hk.2
  have hop:5≤op∧op≤18∧op≠9∧op≠16:=by
   have h1:=qwN (op:=op) (ts:=[a.Typ,b.Typ]) (by unfold qaV;rw[if_pos (by simp[hk.1,hk.2])];simp only;rw[if_pos ho])
   have h2:=qsr ho
   omega
  rcases (show op=5∨op=6∨op=7∨op=8∨op=17∨op=18∨(10≤op∧op≤15) by omega) with rfl|rfl|rfl|rfl|rfl|rfl|hc
  ·exact .inl rfl
  ·exact .inr (.inl rfl)
  ·rw[qxp ⟨by decide,by decide⟩] at ho
   exact .inr (.inr (.inl ⟨rfl,ar7 _ ka _ kb (by simpa using ho)⟩))
  ·rw[qxp ⟨by decide,by decide⟩] at ho⊢
   exact .inr (.inr (.inr (.inl ⟨rfl,ar8 _ ka _ kb (by simpa using ho)⟩)))
  ·refine .inr (.inr (.inr (.inr (.inl ⟨rfl,?_⟩))));have e:qbl 17 a.Typ b.Typ=(a.Typ,decide (a.Typ=b.Typ) && !decide (a.Typ=5)):=rfl
   rw[e] at ho⊢;simp only[zzf,zzq] at ho;obtain⟨ta,na⟩:=a;obtain⟨tb,nb⟩:=b;simp only at ho⊢;obtain⟨rfl,-⟩:=ho;unfold qbx chP qe9;by_cases c:na<nb
   ·simp[ha,hb,c,show ¬nb<na by omega]
   ·by_cases d:nb<na
    ·simp[ha,hb,c,d]
    ·have:na=nb:=by omega
     subst this;simp[ha]
  ·refine .inr (.inr (.inr (.inr (.inr (.inl ⟨rfl,?_⟩)))));have e:qbl 18 a.Typ b.Typ=(a.Typ,decide (a.Typ=b.Typ) && !decide (a.Typ=5)):=rfl
   rw[e] at ho⊢;simp only[zzf,zzq] at ho;obtain⟨ta,na⟩:=a;obtain⟨tb,nb⟩:=b;simp only at ho⊢;obtain⟨rfl,-⟩:=ho;unfold qbx chP qe9;by_cases c:na<nb
   ·simp[ha,hb,c]
   ·simp[ha,hb,c]
  ·refine .inr (.inr (.inr (.inr (.inr (.inr ⟨hc.1,hc.2,?_⟩)))));rcases (show op=10∨op=11∨op=12∨op=13∨op=14∨op=15 by omega) with rfl|rfl|rfl|rfl|rfl|rfl
   ·have e:qbl 10 a.Typ b.Typ=(5,decide (a.Typ=b.Typ)):=rfl
    rw[e];unfold qbx chP qe9 trV qhG;by_cases c:a.N=b.N<;>simp[ha,hb,c]
   ·have e:qbl 11 a.Typ b.Typ=(5,decide (a.Typ=b.Typ)):=rfl
    rw[e];unfold qbx chP qe9 trV qhG;by_cases c:a.N=b.N<;>simp[ha,hb,c]
   ·have e:qbl 12 a.Typ b.Typ=(5,decide (a.Typ=b.Typ) && !decide (a.Typ=5)):=rfl
    rw[e];unfold qbx chP qe9 trV qhG;by_cases c:a.N<b.N<;>simp[ha,hb,c]
   ·have e:qbl 13 a.Typ b.Typ=(5,decide (a.Typ=b.Typ) && !decide (a.Typ=5)):=rfl
    rw[e];unfold qbx chP qe9 trV qhG;by_cases c:a.N≤b.N<;>simp[ha,hb,c]
   all_goals
    have h5:a.Typ=b.Typ∧a.Typ=5:=by simpa[qbl] using ho
    have h6:b.Typ=5:=by omega
    have ga:a.N=0∨a.N=1:=by simpa[okV,h5.2] using ha
    have gb:b.N=0∨b.N=1:=by simpa[okV,h6] using hb
   ·have e:qbl 14 a.Typ b.Typ=(5,decide (a.Typ=b.Typ)&&decide (a.Typ=5)):=rfl
    rw[e];unfold qbx chP qe9 trV qhG
    rcases ga with ga|ga<;>rcases gb with gb|gb<;>simp[ha,hb,ga,gb]<;>decide
   ·have e:qbl 15 a.Typ b.Typ=(5,decide (a.Typ=b.Typ)&&decide (a.Typ=5)):=rfl
    rw[e];unfold qbx chP qe9 trV qhG
    rcases ga with ga|ga<;>rcases gb with gb|gb<;>simp[ha,hb,ga,gb]
 ·rw[if_neg hk] at h;cases h
theorem qIl (T:Tab) (hR:HR T) (hV:HV T) (hS:HS T) (op:Int) (vs:List AValue) (t:Bool) (hi : ∀v∈vs,v.i) (h:(qaV op (vs.map (·.Typ))).2=true):T.val 1049 [I op,.l (K1 2) (vs.map AValue.dv) t]=some (qal (qfZ op vs)):=by
 obtain⟨o0,o1,hl⟩:=qwN h;rw[zzo] at hl;have lp0:=fun k r fr H => @qBL T op vs t (.a [I 0,I 0]) (by omega) k r fr H
 have lp1:=fun w k r fr H => @qBM T hV op w vs t (.a [I 0,I 0]) (by omega) k r fr H
 have e925:=qx2 T hS op (vs.map (·.Typ)) false (by simpa using hl) ⟨o0,o1⟩
 rw[List.map_map] at e925;have hmm:((fun n=>I n)∘fun v:AValue=>v.Typ)=fun v:AValue=>I v.Typ:=rfl
 rw[hmm] at e925;unfold qfZ;obtain⟨w,hw⟩ : ∃w,qaV op (vs.map (·.Typ))=(w,true):=⟨(qaV op (vs.map (·.Typ))).1,by rw[←h]⟩
 rw[hw] at e925⊢;unfold qaD at e925;simp only at e925⊢;obtain⟨r,hr⟩ : ∃r,some (qal (qbx w true op vs))=r:=⟨_,rfl⟩;rw[qab T (hR 1049 F1049 rfl) rfl,hr];simp[F1049,Fr.ofArgs];refine lp0 _ _ _ _ ?_ (by simp)
 cases ho:vs.map (fun v=>I v.Typ) with
 |nil =>
  have hv:vs=[]:=by simpa using ho
  subst hv;simp[qaV] at h
 |cons x o =>
  rw[ho] at e925;have ht:o.take o.length=o:=List.take_of_length_le (by simp)
  have l0:((vs.length:Int)==0)=false:=qac (by have:=congrArg List.length ho;simp at this;omega)
  simp[qao,qaK,pB,ht,qaL,pur,qbd,PV.scal,PV.scal1,DV.scal,DV.scal1,e925,l0];refine lp1 w _ _ _ _ (fun ha => ?_) (fun ha fr J f4 f5 fg => ?_) (by simp)
  ·rw[←hr];clear hr lp0 lp1 e925
   have e52:=fun n h0 h1=>qgu T hR n h0 h1
   match vs,hi,h,hw,ha,hl with
   | [a],hi,h,hw,ha,_ =>
    have ia:=hi a (by simp)
    have ka:okV a=true:=by simpa using ha
    have w0:IntKind.i64.wrap 0=0:=by decide
    have e52:=qgu T hR a.N ia.1 ia.2
    have hw1:(qaV op [a.Typ]).1=w:=by rw[show [a.Typ]=[a].map (·.Typ) from rfl,hw]
    rcases qGA (op:=op) (a:=a) h ka with ⟨rfl,hw2⟩|⟨rfl,hq⟩
    ·have e55:T.val 1055 [.a [I 0,.i .u64 0],(Wd a.N).dv]=some (.t [.d (Wd (0-a.N)).dv,.d (I 0)],false):=qsu T hR 0 a.N (by omega) (by omega) (by have:=ia.1;omega) (by have:=ia.2;omega) (by have:=ia.2;omega) (by have:=ia.1;omega)
     have e54:=qju T hR hV w (0-a.N) (by have:=ia.2;omega) (by have:=ia.1;omega)
     have q:qbx w true 9 [a]=qfB w (0-a.N):=by
      rw[qi6,show 0-a.N = -a.N by omega]
      unfold qbx qha clP;simp[ka]
     rw[q];unfold qal at *
     simp[w0,e52,e55,e54,-Int.zero_sub]
    ·rw[hw1] at hq;have e59:=qIq T hR a t
     rw[hq];unfold qal at *
     simp[w0,e52,e59]
   | [a,b],hi,h,hw,ha,_ =>
    have ia:=hi a (by simp)
    have ib:=hi b (by simp)
    have kab:okV a=true∧okV b=true:=by simpa using ha
    have ka:=kab.1
    have kb:=kab.2
    have e52:=qgu T hR a.N ia.1 ia.2
    have e52b:=qgu T hR b.N ib.1 ib.2
    have hw1:(qaV op [a.Typ,b.Typ]).1=w:=by rw[show [a.Typ,b.Typ]=[a,b].map (·.Typ) from rfl,hw]
    have law:=qH2 (op:=op) (a:=a) (b:=b) h ka kb
    rw[hw1] at law;obtain⟨a0,a1⟩:=ia;obtain⟨b0,b1⟩:=ib;have w2:IntKind.i64.wrap 1=1:=by decide
    rcases law with rfl|rfl|⟨rfl,s1,s2⟩|⟨rfl,t1,t2,t3⟩|⟨rfl,q⟩|⟨rfl,q⟩|⟨c0,c1,q⟩
    ·have e53:=qxw T hR a.N b.N (by omega) (by omega) (by omega) (by omega) (by omega) (by omega)
     have e54:=qju T hR hV w (a.N+b.N) (by omega) (by omega)
     have q:qbx w true 5 [a,b]=qfB w (a.N+b.N):=by
      rw[qi6];unfold qbx qha clP qgU;simp[ka,kb]
     rw[q];unfold qal at *
     simp[w2,e52,e52b,e53,e54]
    ·have e55:=qsu T hR a.N b.N (by omega) (by omega) (by omega) (by omega) (by omega) (by omega)
     have e54:=qju T hR hV w (a.N-b.N) (by omega) (by omega)
     have q:qbx w true 6 [a,b]=qfB w (a.N-b.N):=by
      rw[qi6];unfold qbx qha clP qgU;simp[ka,kb]
     rw[q];unfold qal at *
     simp[w2,e52,e52b,e55,e54]
    ·have sa:=qkv s1
     have sb:=qkv s2
     have e56:=qIm T hR hV w a b ⟨a0,a1⟩ ⟨b0,b1⟩ (by omega) (by omega) (fun h5 hn=>qGR ka kb s1 s2 h5 hn)
     rw[qGT w a b s1 s2] at e56;have q:qbx w true 7 [a,b]=qha w (qis a b):=by
      unfold qbx qha clP qgU;simp[ka,kb]
     rw[q];unfold qal at *
     simp[w2,e52,e52b,e56]
    ·have e57:=qIn T hR hV w a b ⟨a0,a1⟩ ⟨b0,b1⟩
     have q:qbx w true 8 [a,b]=qkq w a b:=by
      by_cases z:b.N=0
      ·unfold qkq qbx clP qgU;simp[ka,kb,z]
      ·rw[qG2 w a b ⟨a0,a1⟩ ⟨b0,b1⟩ z t1 t2 (fun hn=>qrM ka (by rcases t3 with g|g;exact absurd g hn;exact g))]
       unfold qbx qha clP qgU;simp[ka,kb,z]
     rw[q];unfold qal at *
     simp[w2,e52,e52b,e57]
    ·have e58:=qxy T hR 17 a b t (by decide)
     rw[q];unfold qal at *
     simp[w2,e52,e52b,e58]
    ·have e58:=qxy T hR 18 a b t (by decide)
     rw[q];unfold qal at *
     simp[w2,e52,e52b,e58]
    ·have e59:=qIp T hR op a b t
     have g5:=qac (show op≠5 by omega)
     have g6:=qac (show op≠6 by omega)
     have g9:=qac (show op≠9 by omega)
     have g7:=qac (show op≠7 by omega)
     have g8:=qac (show op≠8 by omega)
     have g17:=qac (show op≠17 by omega)
     have g18:=qac (show op≠18 by omega)
     have g19:=qac (show op≠19 by omega)
     rw[q];unfold qal at *
     simp[w2,e52,e52b,e59,g5,g6,g7,g8,g9,g17,g18,g19]
   | [c,a,b],hi,h,hw,ha,_ =>
    have ic:=hi c (by simp)
    have ib:=hi b (by simp)
    have e52:=qgu T hR c.N ic.1 ic.2
    have e52b:=qgu T hR b.N ib.1 ib.2
    have w2:IntKind.i64.wrap 2=2:=by decide
    have hop:op=19∧c.Typ=5∧a.Typ=b.Typ:=by
     unfold qaV at h;by_cases g:([c,a,b].map (·.Typ)).all qbL=true
     ·rw[if_pos g] at h;simp only[zzu,List.map_nil] at h;by_cases c':op=19∧c.Typ=5∧a.Typ=b.Typ
      ·exact c'
      ·rw[if_neg c'] at h;cases h
     ·rw[if_neg g] at h;cases h
    obtain⟨rfl,h5,hab⟩:=hop;have hwb:w=a.Typ:=by
     unfold qaV at hw;by_cases g:([c,a,b].map (·.Typ)).all qbL=true
     ·rw[if_pos g] at hw;simp only[zzu,List.map_nil] at hw;rw[if_pos ⟨trivial,h5,hab⟩] at hw;injection hw with h1 _
      exact h1.symm
     ·rw[if_neg g] at hw;cases hw
    have e58:=qIo T hR c a b t
    have q:qbx w true 19 [c,a,b]=(if c.N=1 then a else b,0):=by
     have kk:[c,a,b].all okV=true:=ha
     unfold qbx chP;rw[if_neg (by decide),if_neg (by rw[kk];decide),if_pos (.inr (by decide))]
     obtain⟨tb,nb⟩:=b;obtain⟨ta,na⟩:=a;simp only at hab hwb;subst hab hwb;by_cases g:c.N=1<;>simp[g]
    rw[q];unfold qal at *
    simp[w2,e52,e52b,e58]
  ·have q:qbx w true op vs=(⟨0,0⟩,1):=by unfold qbx;rw[if_neg (by decide),if_pos ha]
   rw[←hr,q];simp[f4,f5,fg,qal,AValue.dv]
end Go.Sim
end
section
namespace Go.Sim
attribute [local simp ↓] qbh qbj qbb qbB qbi qbK qa8 qba qbr qbD qbE qbt qbu qa9 qbz qbe qbU qbT qfm qbJ qbG qfv qfu qbg qfi qbQ qfj qfl qfk qbI qbH qfo qfq qft qfs qfr qfn qfp qfw qby qbF
attribute [local simp] qbc qaT writeS touchS qax qaI chg qaZ qaO qaE qaP PV.refs PV.refsL IOp.okD IOp.barr qbo Nat.testBit
attribute [local simp] gc Fr.keep qaf qae qad PV.refs PV.refsL qah gcH qaj Obj.refs PV.ren PV.renL Obj.ren Heap.obj Fr.ren gh zzd
set_option maxRecDepth 10000
set_option maxHeartbeats 4000000
def Ans {R:Type} (Q:R→Prop) (x:Option R):Prop:=∃r,x=some r∧Q r
theorem qmQ {R:Type} {Q:R→Prop} {c:Bool} {x y:Option R} (h1:c=true→Ans Q x) (h2:c=false→Ans Q y):Ans Q (brn c (.h (x,y))):=by
 cases c with
 |true=>exact h1 rfl
 |false=>exact h2 rfl
theorem qb0 {R:Type} {Q:R→Prop} {r:R} (h:Q r):Ans Q (some r):=⟨r,rfl,h⟩
def IsI (r:PV×Bool):Prop:=∃n:Int,r=(.d (I n),false)
def IsB (r:PV×Bool):Prop:=∃b:Bool,r=(.d (.b b),false)
theorem qAl {x:Option (PV×Bool)} (h:Ans IsI x) : ∃n:Int,x=some (.d (I n),false):=by obtain⟨r,h1,n,h2⟩:=h;exact⟨n,by rw[h1,h2]⟩
theorem qAk {x:Option (PV×Bool)} (h:Ans IsB x) : ∃b:Bool,x=some (.d (.b b),false):=by obtain⟨r,h1,n,h2⟩:=h;exact⟨n,by rw[h1,h2]⟩
def qcd (op:Int):Int:=if op=1∨op=2∨op=3∨op=4 then 0 else if op=9∨op=16 then 1 else if op=19 then 3 else if 5≤op∧op≤18 then 2 else -1
def qgq (op:Int):Int:=if op=1 then 9223372036854775807 else if op=2 then 1000000000000 else if op=3 then 1000000 else 0
def qhM (x:AExpr):Bool:=qcd x.Op==(x.Args.l.length:Int)&&decide (0≤x.N)&&decide (x.N≤qgq x.Op)&&(x.S==[]||x.Op==4)
theorem qI0 (T:Tab) (hT:HT T) (op:Int):T.val 414 [I op]=some (.d (I (qcd op)),false):=by
 rw[qab T (hT 414 qfX rfl) rfl];by_cases c1:op=1
 ·subst c1;rw[show qcd 1=0 from rfl]
  simp[qfX,Fr.ofArgs]
 have d1:=qac c1
 by_cases c2:op=2
 ·subst c2;rw[show qcd 2=0 from rfl]
  simp[qfX,Fr.ofArgs]
 have d2:=qac c2
 by_cases c3:op=3
 ·subst c3;rw[show qcd 3=0 from rfl]
  simp[qfX,Fr.ofArgs]
 have d3:=qac c3
 by_cases c4:op=4
 ·subst c4;rw[show qcd 4=0 from rfl]
  simp[qfX,Fr.ofArgs]
 have d4:=qac c4
 by_cases c9:op=9
 ·subst c9;rw[show qcd 9=1 from rfl]
  simp[qfX,Fr.ofArgs]
 have d9:=qac c9
 by_cases c16:op=16
 ·subst c16;rw[show qcd 16=1 from rfl]
  simp[qfX,Fr.ofArgs]
 have d16:=qac c16
 by_cases c19:op=19
 ·subst c19;rw[show qcd 19=3 from rfl]
  simp[qfX,Fr.ofArgs]
 have d19:=qac c19
 rw[qcd,if_neg (by omega),if_neg (by omega),if_neg c19]
 by_cases h1:5≤op
 ·by_cases h2:op≤18
  ·rw[if_pos ⟨h1,h2⟩];simp[qfX,Fr.ofArgs,d1,d2,d3,d4,d9,d16,d19,h1,h2]
  ·rw[if_neg (fun h=>h2 h.2)]
   simp[qfX,Fr.ofArgs,d1,d2,d3,d4,d9,d16,d19,h1,h2]
 ·rw[if_neg (fun h=>h1 h.1)]
  simp[qfX,Fr.ofArgs,d1,d2,d3,d4,d9,d16,d19,h1]
theorem qxO (T:Tab) (hT:HT T) (x:AExpr):T.val 408 [x.dv]=some (.d (.b (qhM x)),false):=by
 have e:=qI0 T hT x.Op
 have hop:(x.Op=1∧qgq x.Op=9223372036854775807)∨(x.Op=2∧qgq x.Op=1000000000000)∨(x.Op=3∧qgq x.Op=1000000)∨(x.Op≠1∧x.Op≠2∧x.Op≠3∧qgq x.Op=0):=by
  unfold qgq;by_cases c1:x.Op=1
  ·exact .inl ⟨c1,if_pos c1⟩
  ·by_cases c2:x.Op=2
   ·exact .inr (.inl ⟨c2,by rw[if_neg c1,if_pos c2]⟩)
   ·by_cases c3:x.Op=3
    ·exact .inr (.inr (.inl ⟨c3,by rw[if_neg c1,if_neg c2,if_pos c3]⟩))
    ·exact .inr (.inr (.inr ⟨c1,c2,c3,by rw[if_neg c1,if_neg c2,if_neg c3]⟩))
 obtain⟨o,n,s,a⟩:=x;unfold qhM;simp only at e hop⊢;generalize qgq o=M at *
 obtain⟨r,hr⟩ : ∃r:Option (PV×Bool),some (.d (.b (qcd o==(a.l.length:Int)&&decide (0≤n)&&decide (n≤M)&&(s==[]||o==4))),false)=r:=⟨_,rfl⟩;rw[qab T (hT 408 qhY rfl) rfl,hr];generalize qcd o=q at *
 rcases hop with ⟨rfl,rfl⟩|⟨rfl,rfl⟩|⟨rfl,rfl⟩|⟨n1,n2,n3,rfl⟩
 ·simp[qhY,Fr.ofArgs,e];rw[←hr];repeat' (refine qaM (fun h => ?_) (fun h => ?_)<;>(try simp at h)<;>(try simp[h]))
  all_goals (intros;omega)
 ·simp[qhY,Fr.ofArgs,e];rw[←hr];repeat' (refine qaM (fun h => ?_) (fun h => ?_)<;>(try simp at h)<;>(try simp[h]))
  all_goals (intros;omega)
 ·simp[qhY,Fr.ofArgs,e];rw[←hr];repeat' (refine qaM (fun h => ?_) (fun h => ?_)<;>(try simp at h)<;>(try simp[h]))
  all_goals (intros;omega)
 ·have g1:=qac n1
  have g2:=qac n2
  have g3:=qac n3
  simp[qhY,Fr.ofArgs,e,g1,g2,g3];rw[←hr];repeat' (refine qaM (fun h => ?_) (fun h => ?_)<;>(try simp at h)<;>(try simp[h]))
  all_goals (intros;omega)
theorem qf0 {α β:Type} [Nonempty β] {l:List α} {P:α→β→Prop} (h : ∀a∈l,∃b,P a b) : ∃g:α→β,∀a∈l,P a (g a) :=
 ⟨fun a=>Classical.epsilon (P a),fun a ha=>Classical.epsilon_spec (h a ha)⟩
theorem qgG {x:AExpr} {l:List AExpr} (h:x.Args.l=l.map AExpr.dv) {a:AExpr} (ha:a∈l):SizeOf.sizeOf a.dv<SizeOf.sizeOf x.dv:=by
 have:=List.sizeOf_lt_of_mem (List.mem_map_of_mem (f:=AExpr.dv) ha)
 rw[←h] at this;simp only[AExpr.dv,DV.a.sizeOf_spec,List.cons.sizeOf_spec,DV.l.sizeOf_spec] at this⊢;omega
theorem qgH {x:AExpr} (hx:x.ok) : ∃l:List AExpr,x.Args.l=l.map AExpr.dv∧(∀a∈l,a.ok)∧l.length*56≤140737488355328:=by
 obtain⟨o,m,s,a⟩:=x;obtain⟨a,t⟩:=a;obtain⟨_,_,_,hX⟩:=hx;simp only at hX;obtain⟨h1,l,h2,h3⟩:=qpg hX;refine⟨l,h2,h3,?_⟩;cases hX with|mk _ _ _ h=>rw[h2] at h;simpa[qb4] using h
theorem qB3 (T:Tab) (l:List AExpr) (t:Bool) (g:AExpr→Int) (hg : ∀a∈l,T.val 405 [a.dv]=some (.d (I (g a)),false)) (hn:l.length*56≤140737488355328) {k:KC (PV×Bool)} {r:Option (PV×Bool)} {fr:Fr} {H:Heap}
  (he:k (.exit 0) [(10,.d (.b false)),(9,.d (I l.length)),(8,.d (I l.length)),(7,.d (.l (K1 4) (l.map AExpr.dv) t)),(3,.d (I (l.foldl (fun n a=>IntKind.i64.wrap (n+g a)) 1)))] []=r)
  (h0:gc [3,7,8,9] 0 ⟨fr,H⟩=⟨[(9,.d (I 0)),(8,.d (I l.length)),(7,.d (.l (K1 4) (l.map AExpr.dv) t)),(3,.d (I 1))],[]⟩) :
  kC T.env 0 fr H (.h (.loop [3,7,8,9] qoM,k))=r:=by
 refine qgo (fun p:Nat×Int=>⟨[(9,.d (I p.1)),(8,.d (I l.length)),(7,.d (.l (K1 4) (l.map AExpr.dv) t)),(3,.d (I p.2))],[]⟩) (fun i=>(i,(l.take i).foldl (fun n a=>IntKind.i64.wrap (n+g a)) 1)) l.length ?_ ?_ (by rw[h0];rfl)
 ·intro B _;simp only[List.take_length];rw[←he];have h1 : ¬((l.length:Int)<l.length):=by omega
  simp
 ·intro B _ i hi c hc;have h1:(i:Int)<l.length:=by omega
  have h3:=wr1 (i:=i) (by omega)
  have e:=hg l[i] (zzs hi)
  simp only[List.take_succ_eq_append_getElem hi,List.foldl_append,List.foldl_cons,List.foldl_nil] at hc;simp only;generalize (l.take i).foldl (fun n a=>IntKind.i64.wrap (n+g a)) 1=m at *
  simp[h1,hi,h3,e];exact hc _ _ (by simp)
theorem qxM (T:Tab) (hT:HT T) (x:AExpr) (l:List AExpr) (h2:x.Args.l=l.map AExpr.dv) (h4:l.length*56≤140737488355328) (g:AExpr→Int) (hg : ∀a∈l,T.val 405 [a.dv]=some (.d (I (g a)),false)) :
  T.val 405 [x.dv]=some (.d (I (l.foldl (fun n a=>IntKind.i64.wrap (n+g a)) 1)),false):=by
 have lp:=fun k r fr H => @qB3 T l x.Args.t g hg h4 k r fr H
 rw[qab T (hT 405 F405 rfl) rfl];obtain⟨o,m,s,a⟩:=x;obtain⟨a,t⟩:=a;simp only at h2 lp;subst h2;simp[F405,Fr.ofArgs];refine lp _ _ _ _ ?_ (by simp)
 simp
theorem qxL (T:Tab) (hT:HT T) : ∀(n:Nat) (x:AExpr),SizeOf.sizeOf x.dv<n→x.ok→∃v:Int,T.val 405 [x.dv]=some (.d (I v),false):=by
 intro n;induction n with
 |zero=>intro x h;exact absurd h (zzm _)
 |succ n ih =>
  intro x hn hx;obtain⟨l,h2,h3,h4⟩:=qgH hx;obtain⟨g,hg⟩:=qf0 (P:=fun a v=>T.val 405 [a.dv]=some (.d (I v),false)) (fun a ha=>ih a (by have:=qgG h2 ha;omega) (h3 a ha))
  exact⟨_,qxM T hT x l h2 h4 g hg⟩
theorem qB4 (T:Tab) (l:List AExpr) (t:Bool) (g:AExpr→Int) (hg : ∀a∈l,T.val 406 [a.dv]=some (.d (I (g a)),false)) (hn:l.length*56≤140737488355328) {k:KC (PV×Bool)} {r:Option (PV×Bool)} {fr:Fr} {H:Heap}
  (he:k (.exit 0) [(10,.d (.b false)),(9,.d (I l.length)),(8,.d (I l.length)),(7,.d (.l (K1 4) (l.map AExpr.dv) t)),(3,.d (I (l.foldl (fun n a=>max n (g a)) 0)))] []=r)
  (h0:gc [3,7,8,9] 0 ⟨fr,H⟩=⟨[(9,.d (I 0)),(8,.d (I l.length)),(7,.d (.l (K1 4) (l.map AExpr.dv) t)),(3,.d (I 0))],[]⟩) :
  kC T.env 0 fr H (.h (.loop [3,7,8,9] qoN,k))=r:=by
 refine qgo (fun p:Nat×Int=>⟨[(9,.d (I p.1)),(8,.d (I l.length)),(7,.d (.l (K1 4) (l.map AExpr.dv) t)),(3,.d (I p.2))],[]⟩) (fun i=>(i,(l.take i).foldl (fun n a=>max n (g a)) 0)) l.length ?_ ?_ (by rw[h0];rfl)
 ·intro B _;simp only[List.take_length];rw[←he];have h1 : ¬((l.length:Int)<l.length):=by omega
  simp
 ·intro B _ i hi c hc;have h1:(i:Int)<l.length:=by omega
  have h3:=wr1 (i:=i) (by omega)
  have e:=hg l[i] (zzs hi)
  simp only[List.take_succ_eq_append_getElem hi,List.foldl_append,List.foldl_cons,List.foldl_nil] at hc;simp only;generalize (l.take i).foldl (fun n a=>max n (g a)) 0=m at *
  simp[h1,hi,h3,e];exact hc _ _ (by simp)
theorem qxN (T:Tab) (hT:HT T) (x:AExpr) (l:List AExpr) (h2:x.Args.l=l.map AExpr.dv) (h4:l.length*56≤140737488355328) (g:AExpr→Int) (hg : ∀a∈l,T.val 406 [a.dv]=some (.d (I (g a)),false)) :
  T.val 406 [x.dv]=some (.d (I (IntKind.i64.wrap (l.foldl (fun n a=>max n (g a)) 0+1))),false):=by
 have lp:=fun k r fr H => @qB4 T l x.Args.t g hg h4 k r fr H
 rw[qab T (hT 406 F406 rfl) rfl];obtain⟨o,m,s,a⟩:=x;obtain⟨a,t⟩:=a;simp only at h2 lp;subst h2;simp[F406,Fr.ofArgs];refine lp _ _ _ _ ?_ (by simp)
 simp
theorem qIW (T:Tab) (hT:HT T) : ∀(n:Nat) (x:AExpr),SizeOf.sizeOf x.dv<n→x.ok→∃v:Int,T.val 406 [x.dv]=some (.d (I v),false):=by
 intro n;induction n with
 |zero=>intro x h;exact absurd h (zzm _)
 |succ n ih =>
  intro x hn hx;obtain⟨l,h2,h3,h4⟩:=qgH hx;obtain⟨g,hg⟩:=qf0 (P:=fun a v=>T.val 406 [a.dv]=some (.d (I v),false)) (fun a ha=>ih a (by have:=qgG h2 ha;omega) (h3 a ha))
  exact⟨_,qxN T hT x l h2 h4 g hg⟩
theorem qqf : ∀(H J:Heap),qad (H++J)=qad H++qad J
 | [],_=>rfl
 |x::H,J=>by rw[List.cons_append,qad,qad,qqf H J,List.append_assoc]
theorem qyj {H:Heap} (hH:Cl H) (k k':K) (v:DV) (h:Nat):Cl (H++[some (.box k (.d v)),some (.box k' (.f h []))]):=by
 intro r hr;have:r∈qad H:=by simpa[qqf,qad,qaj,Obj.refs,PV.refs,PV.refsL] using hr
 have:=hH r this
 simp only[zzp,zzn,List.length_nil];omega
theorem qyi {H:Heap} (hH:Cl H) (k:K) (v:DV):Cl (H++[some (.box k (.d v))]):=by
 intro r hr;have:r∈qad H:=by simpa[qqf,qad,qaj,Obj.refs,PV.refs,PV.refsL] using hr
 have:=hH r this
 simp only[zzp,zzn,List.length_nil];omega
theorem qG7 (T:Tab) (hT:HT T) (p:AExpr→Bool) (c:PV) (H0:Heap) (hH:Cl H0) (hc : ∀r∈PV.refsL [c],r<H0.length) (l:List AExpr) (hv : ∀x∈l,T.ref 413 [.d x.dv,c] H0=some (.d (.b (p x)),H0)) (s:Bool) (hn:l.length≤maxLen) :
  T.ref 412 [.d (.l (K1 4) (l.map AExpr.dv) s),.f 413 [c]] H0=some (.d (.b (l.any p)),H0):=by
 have e:=qr9 T (show T.F 419=some (qjN (K1 4)) from hT 419 qmm rfl) 413 AExpr.dv p c [] H0 hH hc l hv s hn
 have ea:=quL p l
 rw[qg3 T (hT 412 qkT rfl) rfl];simp[qkT,Fr.ofArgs,e,qgl,qnd hH,ea]
theorem qr8 (T:Tab) (hT:HT T) (h:Nat) (x:AExpr) (l:List AExpr) (h2:x.Args.l=l.map AExpr.dv) (h4:l.length*56≤140737488355328) (b:Bool) (hb:T.val h [x.dv]=some (.d (.b b),false)) (g:AExpr→Bool) (hg : ∀a∈l,∀H0,Cl H0→T.ref 407 [.d a.dv,.f h []] H0=some (.d (.b (g a)),H0)) (H0:Heap) (hH:Cl H0) :
  T.ref 407 [.d x.dv,.f h []] H0=some (.d (.b (b && !(l.any fun a => !(g a)))),H0):=by
 have hC:=qyj hH (K1 4) K0 x.dv h
 have hm:=mxl
 have e412:=qG7 T hT (fun a => !(g a)) (.p (H0.length+1) 0 0) _ hC (by simp[PV.refs,PV.refsL]) l (fun a ha=>by
  have e:=hg a ha _ (qyi hC (K1 4) a.dv)
  rw[qg3 T (hT 413 qkU rfl) rfl];simp[qkU,Fr.ofArgs,ql2,List.append_assoc] at e⊢;rw[e];simp[qgl]
  have:=qi9 hC [some (.box (K1 4) (.d a.dv))] (.b (!(g a)))
  simpa[List.append_assoc] using this) x.Args.t (by rw[hm];omega)
 obtain⟨o,m,s,a⟩:=x;obtain⟨a,t⟩:=a;simp only at h2;subst h2;rw[qg3 T (hT 407 qjB rfl) rfl];have hg1:=qi9 hH [some (.box (K1 4) (.d (AExpr.dv ⟨o,m,s,⟨l.map AExpr.dv,t⟩⟩))),some (.box K0 (.f h []))]
 cases b with
 |false =>
  simp[qjB,Fr.ofArgs,qp1,ql2,qnQ,hb,qgl];exact hg1 _
 |true =>
  simp[qjB,Fr.ofArgs,qp1,ql2,qnQ,hb,e412,qgl];exact hg1 _
theorem qwL (T:Tab) (hT:HT T) (h:Nat) (hp : ∀a:AExpr,a.ok→∃b:Bool,T.val h [a.dv]=some (.d (.b b),false)) : ∀(n:Nat) (x:AExpr),SizeOf.sizeOf x.dv<n→x.ok→∃b:Bool,∀H0,Cl H0→T.ref 407 [.d x.dv,.f h []] H0=some (.d (.b b),H0):=by
 intro n;induction n with
 |zero=>intro x h;exact absurd h (zzm _)
 |succ n ih =>
  intro x hn hx;obtain⟨l,h2,h3,h4⟩:=qgH hx;obtain⟨g,hg⟩:=qf0 (P:=fun a b=>∀H0,Cl H0→T.ref 407 [.d a.dv,.f h []] H0=some (.d (.b b),H0)) (fun a ha=>ih a (by have:=qgG h2 ha;omega) (h3 a ha))
  obtain⟨b,hb⟩:=hp x hx;exact⟨_,fun H0 hH=>qr8 T hT h x l h2 h4 b hb g hg H0 hH⟩
def HNm (T:Tab):Prop:=∀s:List UInt8,s.length≤maxLen→∃b:Bool,T.val 415 [.s s]=some (.d (.b b),false)
theorem qIX (T:Tab) (hT:HT T) (hN:HNm T) (x:AExpr) (hx:x.ok) : ∃b:Bool,T.val 409 [x.dv]=some (.d (.b b),false):=by
 apply qAk
 obtain⟨b,e⟩:=hN x.S hx.2.2.1;rw[qab T (hT 409 qhZ rfl) rfl];simp[qhZ,Fr.ofArgs];repeat' (refine qmQ (fun h => ?_) (fun h => ?_)<;>(try simp at h)<;>(try simp[h,e]))
 all_goals exact qb0 (show IsB _ from⟨_,rfl⟩)
theorem qIU (T:Tab) (hT:HT T) (hN:HNm T) (x:AExpr) (hx:x.ok) : ∃n:Int,T.val 399 [x.dv]=some (.d (I n),false):=by
 obtain⟨n,e1⟩:=qxL T hT _ x (Nat.lt_succ_self _) hx;obtain⟨m,e2⟩:=qIW T hT _ x (Nat.lt_succ_self _) hx;obtain⟨b,e3⟩:=qwL T hT 408 (fun a _=>⟨_,qxO T hT a⟩) _ x (Nat.lt_succ_self _) hx
 obtain⟨c,e4⟩:=qwL T hT 409 (fun a ha=>qIX T hT hN a ha) _ x (Nat.lt_succ_self _) hx
 have e3':=e3 [some (.box (K1 4) (.d x.dv))] (by intro r hr;simp[qad,qaj,Obj.refs,PV.refs] at hr)
 have e4':=e4 [some (.box (K1 4) (.d x.dv))] (by intro r hr;simp[qad,qaj,Obj.refs,PV.refs] at hr)
 apply qAl
 rw[qab T (hT 399 qfM rfl) rfl];simp[qfM,Fr.ofArgs,e1];repeat' (refine qmQ (fun h => ?_) (fun h => ?_)<;>(try simp at h)<;>(try simp[h,e2,e3',e4']))
 all_goals exact qb0 (show IsI _ from⟨_,rfl⟩)
end Go.Sim
end
end
section
namespace Go.Sim
theorem qg4 {x y:List UInt8} (h : ¬x=y):(x==y)=false:=by simpa using h
end Go.Sim
end
