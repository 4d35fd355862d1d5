/- Part 24 of the proof: CbAoZ, CbAp1, CbAp3, CbH1, CbU25, CbH2, CbH3, CbH4, CbH5, CbH6, CbH7, CbH8, CbH9, CbHa, CbBq, CbXe, CbHb, CbHc, CbHd, CbHe, CbHf, CbN0, CbV25N, CbN1, CbN2, CbN3, CbP2, CbP3, CbN4, CbN5, CbP4, CbP5, CbP6, CbAp2, CbAp4, CbAp5, CbAp6, CbAp7, CbV25H, CbJ2, CbJ3, CbJ4, CbGe, CbO1, CbO0, CbKn, CbAp8, CbAp9, CbHg, CbApa. -/
import Derived.Test.YtcihddahcplehaaGreatDoorB20
import Derived.Test.YtcihddahcplehaaGreatDoorB21
import Derived.Test.YtcihddahcplehaaGreatDoorB22
import Derived.Test.YtcihddahcplehaaGreatDoorB23
import Derived.Test.YtcihddahcplehaaGreatDoorB18
import Derived.Test.YtcihddahcplehaaGreatDoorB6
import Derived.Test.YtcihddahcplehaaGreatDoorB2
import Derived.Test.YtcihddahcplehaaGreatDoorB7
import Derived.Test.YtcihddahcplehaaGreatDoorB8
import Derived.Test.YtcihddahcplehaaGreatDoorB9
import Derived.KernelRfl
section
namespace Go.Sim
set_option maxRecDepth 100000
structure HHand (T:Tab):Prop where
 a679:qaj T 679 qpu
 a859:qaj T 859 qrc
 a860:qaj T 860 qo8
 a106:qaj T 106 qpV
 a177:qaj T 177 qvV
 a1103:qaj T 1103 qqA
 a1101:qaj T 1101 qpa
theorem qGH (T:Tab) (hS:HS T):qaj T 537 qrJ:=qau (hS 537 qjk rfl) qGb fun _=>qar
theorem qEM (T:Tab) (hS:HS T):qaj T 504 qqQ:=qau (hS 504 qlB rfl) qAD fun _=>qal (qGH T hS) (qar)
theorem qHi (T:Tab) (hS:HS T):qaj T 539 qrd:=qau (hS 539 qll rfl) qJL fun _=>qar
theorem qmb (T:Tab) (hS:HS T):qaj T 540 qkV:=qau (hS 540 qkC rfl) qKL fun _=>qar
theorem qwT (T:Tab) (hS:HS T):qaj T 596 qp8:=qau (hS 596 qlz rfl) qKh fun _=>qar
theorem qAd (T:Tab) (hS:HS T):qaj T 541 qrw:=qau (hS 541 qk1 rfl) qJU fun _=>qal (qmb T hS) (qal (qwT T hS) (qar))
theorem qDe (T:Tab) (hS:HS T):qaj T 506 qnZ:=qau (hS 506 qlu rfl) qJ4 fun _=>qal (qHi T hS) (qal (qmb T hS) (qal (qAd T hS) (qar)))
theorem qif (T:Tab) (hS:HS T):qaj T 544 qgT:=qau (hS 544 qgN rfl) qLd fun _=>qar
theorem qIQ (T:Tab) (hS:HS T) (hH:HHand T):qaj T 545 qqb:=qau (hS 545 qlk rfl) qB7 fun _=>qal hH.a106 (qal (qif T hS) (qar))
theorem qnq (T:Tab) (hS:HS T):qaj T 598 qi9:=qau (hS 598 qkO rfl) qHV fun _=>qar
theorem qts (T:Tab) (hS:HS T):qaj T 603 qng:=qau (hS 603 qiL rfl) qz2 fun _=>qar
theorem qFL (T:Tab) (hS:HS T):qaj T 546 qrQ:=qau (hS 546 qkb rfl) qDG fun _=>qal (qnq T hS) (qal (qts T hS) (qar))
theorem qAp (T:Tab) (hS:HS T) (hH:HHand T):qaj T 508 qrS:=qau (hS 508 qkn rfl) qKq fun _=>qal (qif T hS) (qal (qIQ T hS hH) (qal (qFL T hS) (qar)))
theorem qHe (T:Tab) (hS:HS T):qaj T 685 qpm:=qau (hS 685 qgr rfl) qHO fun _=>qar
theorem qGu (T:Tab) (hS:HS T):qaj T 607 qn4:=qau (hS 607 qgD rfl) qJu fun _=>qal (qHe T hS) (qar)
theorem qDb (T:Tab) (hS:HS T):qaj T 549 qri:=qau (hS 549 qkp rfl) qJz fun _=>qal (qif T hS) (qal (qGu T hS) (qar))
theorem qAj (T:Tab) (hS:HS T):qaj T 550 qp2:=qau (hS 550 qjO rfl) qGl fun _=>qar
theorem qII (T:Tab) (hS:HS T):qaj T 510 qsu:=qau (hS 510 qjt rfl) qBC fun _=>qal (qDb T hS) (qal (qAj T hS) (qar))
theorem qHv (T:Tab) (hS:HS T):qaj T 551 qou:=qau (hS 551 qlp rfl) qJ1 fun _=>qal (qif T hS) (qar)
theorem qsZ (T:Tab) (hS:HS T):qaj T 552 ql0:=qau (hS 552 qkF rfl) qBk fun _=>qar
theorem qDx (T:Tab) (hS:HS T):qaj T 511 qsl:=qau (hS 511 qk7 rfl) qEe fun _=>qal (qHv T hS) (qal (qsZ T hS) (qar))
theorem qEo (T:Tab) (hS:HS T):qaj T 595 qr5:=qau (hS 595 qj5 rfl) qzu fun _=>qar
theorem qJa (T:Tab) (hS:HS T):qaj T 538 qr0:=qau (hS 538 qjL rfl) qEA fun _=>qal (qif T hS) (qal (qsZ T hS) (qal (qEo T hS) (qar)))
theorem qFS (T:Tab) (hS:HS T):qaj T 597 qoP:=qau (hS 597 qlg rfl) qD0 fun _=>qar
theorem qDc (T:Tab) (hS:HS T):qaj T 542 qsd:=qau (hS 542 qj4 rfl) qF9 fun _=>qal (qFS T hS) (qar)
theorem qAf (T:Tab) (hS:HS T):qaj T 513 qqC:=qau (hS 513 qkY rfl) qEt fun _=>qar
theorem qze (T:Tab) (hS:HS T):qaj T 599 qmk:=qau (hS 599 qkP rfl) qFT fun _=>qar
theorem qKf (T:Tab) (hS:HS T):qaj T 676 qsm:=qau (hS 676 qjK rfl) qzp fun _=>qar
theorem qFM (T:Tab) (hS:HS T):qaj T 600 qpc:=qau (hS 600 qjB rfl) qKO fun _=>qal (qKf T hS) (qar)
theorem qG7 (T:Tab) (hS:HS T) (hH:HHand T):qaj T 769 qoH:=qau (hS 769 qkk rfl) qJR fun _=>qal hH.a859 (qal hH.a860 (qar))
theorem qt6 (T:Tab) (hS:HS T) (hH:HHand T):qaj T 677 qmZ:=qau (hS 677 qjQ rfl) qGZ fun _=>qal (qG7 T hS hH) (qar)
theorem qyP (T:Tab) (hS:HS T):qaj T 678 qlC:=qau (hS 678 qjf rfl) qz8 fun _=>qar
theorem qEg (T:Tab) (hS:HS T) (hH:HHand T):qaj T 601 qp7:=qau (hS 601 qlv rfl) qA1 fun _=>qal (qnq T hS) (qal (qt6 T hS hH) (qal (qyP T hS) (qar)))
theorem qGU (T:Tab) (hS:HS T) (hH:HHand T):qaj T 602 qpy:=qau (hS 602 qjm rfl) qAO fun _=>qal (qnq T hS) (qal (qt6 T hS hH) (qal (qyP T hS) (qar)))
theorem qzR (T:Tab) (hS:HS T) (hH:HHand T):qaj T 543 qr6:=qau (hS 543 qkd rfl) qzw fun _=>qal (qAf T hS) (qal (qif T hS) (qal (qnq T hS) (qal (qze T hS) (qal (qFM T hS) (qal (qEg T hS hH) (qal (qGU T hS hH) (qar)))))))
theorem qBX (T:Tab) (hS:HS T):qaj T 1094 qpM:=qau (hS 1094 qgR rfl) qKx fun _=>qar
theorem qBv (T:Tab) (hS:HS T):qaj T 950 qs4:=qqm (hS 950 qg6 rfl) qEH rfl fun _=>qar
theorem qFn (T:Tab) (hS:HS T):qaj T 919 qpF:=qau (hS 919 qgi rfl) qF6 fun _=>qal (qBv T hS) (qar)
theorem qDZ (T:Tab) (hS:HS T):qaj T 1095 qpf:=qau (hS 1095 qgP rfl) qB5 fun _=>qal (qFn T hS) (qar)
theorem qGw (T:Tab) (hS:HS T):qaj T 1096 qsC:=qau (hS 1096 qgM rfl) qG3 fun _=>qar
theorem qBS (T:Tab) (hS:HS T):qaj T 1090 qrk:=qau (hS 1090 qgU rfl) qAP fun _=>qal (qBX T hS) (qal (qDZ T hS) (qal (qGw T hS) (qar)))
theorem qyB (T:Tab) (hS:HS T):qaj T 683 qnd:=qau (hS 683 qiw rfl) qIT fun _=>qar
theorem qBJ (T:Tab) (hS:HS T):qaj T 684 qoN:=qau (hS 684 qjg rfl) qHb fun _=>qal (qyB T hS) (qar)
theorem qGT (T:Tab) (hS:HS T):qaj T 1023 qsc:=qau (hS 1023 qig rfl) qKv fun _=>qal (qts T hS) (qal (qyB T hS) (qar))
theorem qER (T:Tab) (hS:HS T) (hH:HHand T):qaj T 1100 qrv:=qau (hS 1100 qk2 rfl) qC9 fun _=>qal (qmb T hS) (qal (qze T hS) (qal (qBJ T hS) (qal (qGT T hS) (qal hH.a1101 (qar)))))
theorem qDt (T:Tab) (hS:HS T) (hH:HHand T):qaj T 1099 qrp:=qau (hS 1099 qkQ rfl) qAx fun _=>qal hH.a679 (qal (qER T hS hH) (qar))
theorem qJY (T:Tab) (hS:HS T) (hH:HHand T):qaj T 1093 qv8:=qau (hS 1093 qhZ rfl) qEx fun _=>qal (qEM T hS) (qal (qDe T hS) (qal (qAp T hS hH) (qal (qII T hS) (qal (qDx T hS) (qal (qJa T hS) (qal (qDc T hS) (qal (qzR T hS hH) (qal (qBS T hS) (qal (qDt T hS hH) (qar))))))))))
theorem qEZ (T:Tab) (hS:HS T):qaj T 920 qCf:=qqm (hS 920 qj8 rfl) qJf rfl fun _=>qar
theorem qBA (T:Tab) (hS:HS T):qaj T 951 qok:=qau (hS 951 qko rfl) qK8 fun _=>qar
theorem qAI (T:Tab) (hS:HS T):qaj T 952 qpH:=qau (hS 952 qjj rfl) qEO fun _=>qar
theorem qCK (T:Tab) (hS:HS T):qaj T 921 qEb:=qqm (hS 921 qk6 rfl) qzG rfl fun _=>qal (qBA T hS) (qal (qAI T hS) (qar))
theorem qDO (T:Tab) (hS:HS T):qaj T 512 qqN:=qau (hS 512 qlc rfl) qAA fun _=>qar
theorem qKr (T:Tab) (hS:HS T):qaj T 968 qoI:=qau (hS 968 qjn rfl) qGS fun _=>qar
theorem qGp (T:Tab) (hS:HS T):qaj T 954 qqu:=qau (hS 954 qjJ rfl) qzY fun _=>qal (qKr T hS) (qar)
theorem qIA (T:Tab) (hS:HS T):qaj T 923 qza:=qau (hS 923 qj2 rfl) qFZ fun _=>qal (qDO T hS) (qal (qGp T hS) (qar))
theorem qyd (T:Tab) (hS:HS T):qaj T 924 qq4:=qau (hS 924 qkB rfl) qDu fun _=>qar
theorem qor (T:Tab) (hS:HS T):qaj T 969 qkq:=qau (hS 969 qj3 rfl) qKY fun _=>qar
theorem qEd (T:Tab) (hS:HS T):qaj T 985 qqd:=qau (hS 985 qj0 rfl) qAr fun _=>qal (qor T hS) (qar)
theorem qCw (T:Tab) (hS:HS T):qaj T 970 qpb:=qau (hS 970 qkD rfl) qEF fun _=>qal (qor T hS) (qal (qEd T hS) (qar))
theorem qzV (T:Tab) (hS:HS T):qaj T 955 qqn:=qau (hS 955 qkT rfl) qDf fun _=>qal (qor T hS) (qal (qCw T hS) (qar))
theorem qDF (T:Tab) (hS:HS T):qaj T 925 qxQ:=qau (hS 925 qjZ rfl) qHw fun _=>qal (qyd T hS) (qal (qzV T hS) (qar))
theorem qF7 (T:Tab) (hS:HS T):qaj T 259 qwx:=qau (hS 259 qkz rfl) qIi fun _=>qar
end Go.Sim
end
section
open Go.Sim
attribute [local simp ↓] qd7 qer qef qeb qet qeP qda qeJ sqK blK lpK qc8 qex qc2 qdL qc3 qe2 qeG qdF qdO qe0 qdi qeB qd1 qeN qdN qeE qep qdE qdT qdd qdU qeV qdj qdm qeX qdX qey qeq qds qdc qej qdy qdt qe4 qee qd6 qeC qeD qea qeH qd4 qdS qcP qem qeh qcU qdQ qe1 qdI qdq qed qdr qek qdC qeM qdK qev qd9 qe5 qdl qeg qeU qd0 qdV qdR qeY qde qdB qd3 qcl qdp qcH qcK qen qdx qeA qdu qeS qeW qeZ qfa qdD qeQ qeL qc7 qdo qdv qez qeT qdn qfg qfD qfu qfH qft qfR qfp qfA qfO qfI qfC qfM qfT qf6
attribute [local simp] qb6 qdW qe8 qdA qd2 qdb qc6 qc4 qdh qdg qc9 rd IOp.adds qak gh nid rgK rdS qdP qeF qec qdJ qdz qdw qdG qeI qdf qe9 qd5 qel qe7 qeR qei qd8 qeK qc1 qe6 qdH qc5 qfi qfj qfs qcs qfo qfe qfl qfL qfB qfN qfG
section
namespace Go.Sim
set_option maxRecDepth 10000
set_option maxHeartbeats 4000000
def qKH (r:PV×Bool):Prop:=∃n:Int,r=(.d (I n),false)∧0≤n∧n≤96
theorem qDB (T:Tab) (hS:HS T) (s:List UInt8) (hs:s.length≤maxLen):Anx qKH (T.val 260 [.s s]):=by
 have hm:=mxl
 rw[qaZ T (hS 260 qkc rfl) rfl];simp[qkc,Fr.ofArgs];refine qfq (fun q:Nat×Int=>⟨[(4,.d (I q.1)),(3,.d (I q.2)),(0,.d (.s s))],[]⟩) (fun q=>q.1≤s.length∧0≤q.2∧q.2≤96) (fun q=>s.length-q.1) ?_ (0,0) ⟨Nat.zero_le _,by omega,by omega⟩ (by simp[gc,Fr.keep,qaf,qab,qae,PV.refs,PV.refsL,qag,gcH,qah,Obj.refs,PV.ren,PV.renL,Obj.ren,Heap.obj,Fr.ren,gh,zzd])
 rintro B-⟨i,n⟩ ⟨hi,hn0,hn1⟩ hx;simp only at hi hn0 hn1⊢;by_cases hlt:i<s.length
 ·have h1:(i:Int)<s.length:=by omega
  have h3:=wr1 (i:=i) (by omega)
  have hb:=s[i].toNat_lt
  generalize hbe:((s[i].toNat:Nat):Int)=b at *
  have hu : ∀c:Int,∃u:Int,IntKind.u8.wrap (b-c)=u∧0≤u∧u<256∧IntKind.i64.wrap u=u:=by
   intro c;refine⟨_,rfl,?_⟩;rw[IntKind.wrap_u8];have:0≤(b-c)%256∧(b-c)%256<256:=by omega
   exact⟨this.1,this.2,wrI (by omega) (by omega)⟩
  obtain⟨u,u1,u2,u3,u4⟩:=hu 48;obtain⟨v,v1,v2,v3,v4⟩:=hu 65;have w1:IntKind.i64.wrap (10*n)=10*n:=wrI (by omega) (by omega)
  have w2:IntKind.i64.wrap (10*n+u)=10*n+u:=wrI (by omega) (by omega)
  have w3:IntKind.i64.wrap (100*n)=100*n:=wrI (by omega) (by omega)
  have w4:IntKind.i64.wrap (100*n+v)=100*n+v:=wrI (by omega) (by omega)
  have w5:IntKind.i64.wrap (100*n+v+10)=100*n+v+10:=wrI (by omega) (by omega)
  have t1:0≤(10*n+u).tmod 97∧(10*n+u).tmod 97≤96:=by
   rw[Int.tmod_eq_emod_of_nonneg (by omega)];omega
  have t2:0≤(100*n+v+10).tmod 97∧(100*n+v+10).tmod 97≤96:=by
   rw[Int.tmod_eq_emod_of_nonneg (by omega)];omega
  have hx1:=hx (i+1,(10*n+u).tmod 97) ⟨by simp only;omega,t1⟩ (by simp only;omega)
  have hx2:=hx (i+1,(100*n+v+10).tmod 97) ⟨by simp only;omega,t2⟩ (by simp only;omega)
  simp[qqw,↓qhj,↓qhL,h1,hlt,h3,hbe];refine qf3 (fun h => ?_) (fun h => ?_)
  ·simp[↓qhj,↓qhL,↓quQ,↓qsJ,h1,hlt,h3,hbe,u1,u4,w1,w2];exact hx1 _ _ (by simp[gc,Fr.keep,qaf,qab,qae,PV.refs,PV.refsL,qag,gcH,qah,Obj.refs,PV.ren,PV.renL,Obj.ren,Heap.obj,Fr.ren,gh,zzd])
  ·simp[↓qhj,↓qhL,↓quQ,↓qsJ,h1,hlt,h3,hbe,v1,v4,w3,w4,w5];exact hx2 _ _ (by simp[gc,Fr.keep,qaf,qab,qae,PV.refs,PV.refsL,qag,gcH,qah,Obj.refs,PV.ren,PV.renL,Obj.ren,Heap.obj,Fr.ren,gh,zzd])
 ·have h1 : ¬((i:Int)<s.length):=by omega
  simp[qqw,h1];exact qaz ⟨n,rfl,hn0,hn1⟩
theorem qgF {T:Tab} {f:Nat} {a:List (K×List TA)} (h:qaj T f ⟨a,[(none,[.b])]⟩) (d:Nat) {ds:List DV} (hd:qbu d a ds) : ∃b own,T.val f ds=some (.d (.b b),own):=by
 obtain⟨vs,own,h1,h2⟩:=h d ds hd;cases vs with
 |nil=>exact h2.elim
 |cons v vs =>
  cases vs with
  |cons=>exact h2.2.elim
  |nil =>
   obtain⟨cs,c1,c2⟩:=h2.1;obtain⟨w,r,rfl,⟨b,rfl⟩,c3⟩:=qaY c2;obtain rfl:=qcv c3;cases c1;exact⟨b,own,h1⟩
theorem qD4 {T:Tab} {f:Nat} {a:List (K×List TA)} (h:qaj T f ⟨a,[(none,[.i .i64])]⟩) (d:Nat) {ds:List DV} (hd:qbu d a ds) : ∃n own,T.val f ds=some (.d (I n),own)∧(Lit.int .i64 n).wf=true:=by
 obtain⟨vs,own,h1,h2⟩:=h d ds hd;cases vs with
 |nil=>exact h2.elim
 |cons v vs =>
  cases vs with
  |cons=>exact h2.2.elim
  |nil =>
   obtain⟨cs,c1,c2⟩:=h2.1;obtain⟨w,r,rfl,⟨b,rfl,hw⟩,c3⟩:=qaY c2;obtain rfl:=qcv c3;cases c1;exact⟨b,own,h1,hw⟩
theorem qli {d:Nat} {s:List UInt8} (hs:s.length≤maxLen):HsK d (none,[.s]) (.s s):=⟨[.s s],rfl,⟨s,rfl,hs⟩,trivial⟩
theorem qfK {d:Nat} {n:Int} (h:(Lit.int .i64 n).wf=true):HsK d (none,[.i .i64]) (I n):=⟨[I n],rfl,⟨n,rfl,h⟩,trivial⟩
theorem qqU : ∀q:Nat,q<10→∃c:UInt8,List.drop q (48::List.take q [49,50,51,52,53,54,55,56,57])=[c]
 | 0,_=>⟨_,rfl⟩|1,_=>⟨_,rfl⟩|2,_=>⟨_,rfl⟩|3,_=>⟨_,rfl⟩|4,_=>⟨_,rfl⟩|5,_=>⟨_,rfl⟩|6,_=>⟨_,rfl⟩|7,_=>⟨_,rfl⟩|8,_=>⟨_,rfl⟩|9,_=>⟨_,rfl⟩
 |n+10,h=>absurd h (by omega)
def qBK (r:PV×Bool):Prop:=∃(w:List UInt8) (e:Int),r=(.t [.d (.s w),.d (I e)],false)∧w.length≤maxLen∧(Lit.int .i64 e).wf=true
theorem qvq (T:Tab) (hS:HS T) (s:List UInt8) (hs:s.length≤maxLen):Anx qBK (T.val 177 [.s s]):=by
 have hm:=mxl
 obtain⟨b,own,e259⟩:=qgF (qF7 T hS) 0 (ds:=[.s s]) ⟨qli hs,trivial⟩;rw[qaZ T (hS 177 qgW rfl) rfl];by_cases g1:s.length<1
 ·have g1':s=[]:=List.length_eq_zero_iff.1 (by omega)
  subst g1';simp[qgW,Fr.ofArgs];exact qaz ⟨_,_,rfl,by simp,by decide⟩
 have g1' : ¬((s.length:Int)<1):=by omega
 by_cases g2:46<s.length
 ·have g2':(46:Int)<s.length:=by omega
  simp[qgW,Fr.ofArgs,g1,g1',g2,g2'];exact qaz ⟨_,_,rfl,by simp,by decide⟩
 have g2' : ¬((46:Int)<s.length):=by omega
 cases b with
 |false =>
  simp[qgW,Fr.ofArgs,g1,g1',g2,g2',e259];exact qaz ⟨_,_,rfl,by simp,by decide⟩
 |true =>
  obtain⟨r,e260,n,rfl,n0,n1⟩:=qDB T hS (s++[48,48]) (by rw[zzp];simp;omega)
  have k1:IntKind.i64.wrap (98-n)=98-n:=wrI (by omega) (by omega)
  obtain⟨q,hq,q1⟩ : ∃q:Nat,q<10∧(98-n).tdiv 10=q:=by
   rw[Int.tdiv_eq_ediv_of_nonneg (by omega)]
   exact⟨((98-n)/10).toNat,by omega,by omega⟩
  obtain⟨p,hp,p1⟩ : ∃p:Nat,p<10∧(98-n).tmod 10=p:=by
   rw[Int.tmod_eq_emod_of_nonneg (by omega)]
   exact⟨((98-n)%10).toNat,by omega,by omega⟩
  have q2:IntKind.i64.wrap (q:Int)=q:=wrI (by omega) (by omega)
  have q3:IntKind.i64.wrap ((q:Int)+1)=(q:Int)+1:=wrI (by omega) (by omega)
  have p3:IntKind.i64.wrap ((p:Int)+1)=(p:Int)+1:=wrI (by omega) (by omega)
  obtain⟨c,hc⟩:=qqU q hq;obtain⟨c2,hc2⟩:=qqU p hp;have b1:(q:Int)+1≤10:=by omega
  have m1:min q 9+1-q=1:=by omega
  have m2:min p 9+1-p=1:=by omega
  have b2:(p:Int)+1≤10:=by omega
  have b3:(q:Int)≤(q:Int)+1:=by omega
  have b4:(p:Int)≤(p:Int)+1:=by omega
  have l1:s.length+2<4611686018427387904:=by omega
  have l2:s.length+1<4611686018427387904:=by omega
  have l3:s.length+1+1<4611686018427387904:=by omega
  have b5:(0:Int)≤(q:Int)+1:=by omega
  have b6:(0:Int)≤(p:Int)+1:=by omega
  simp[qgW,Fr.ofArgs,g1,g1',g2,g2',e259,e260,k1,q1,q2,q3,p1,p3,hc,hc2,b1,b2,b3,b4,b5,b6,l1,l2,l3,m1,m2,↓qbn,↓qbt,↓qbf,↓qbK,↓qbc,↓qbD,↓qbe,qbh,↓qbj,↓qbp,↓qb3,↓qbQ,↓qbO,↓qbH,↓qbi,↓qbz,↓qbd,↓qbE,↓qbN,↓qbT,↓qbV,↓qb2,↓qbG,↓qbL,↓qbk,↓qbJ,↓qbs,↓qbU,↓qbA,↓qbY,↓qbZ,↓qbS,↓qb1,↓qb0,↓qbF,↓qbW,↓qbM,↓qbB,↓qbP,↓qbX,↓qbR,↓qby,qa6,writeS,touchS,qat,qaR,chg,qa2,runs,qaP,qa4,PV.refs,PV.refsL,IOp.okD,IOp.barr,qa9,Nat.testBit];exact qaz ⟨_,_,rfl,by simp;omega,by decide⟩
def qFq (r:PV×Bool):Prop:=∃(w:List UInt8),r=(.d (.s w),false)∧w.length≤maxLen
theorem qIk (T:Tab) (hS:HS T) (id:Int) (hid:(Lit.int .i64 id).wf=true):Anx qFq (T.val 106 [I id]):=by
 have hm:=mxl
 rw[qaZ T (hS 106 qhz rfl) rfl];by_cases g1:id<1000
 ·simp[qhz,Fr.ofArgs,g1];exact qaz ⟨_,rfl,by simp⟩
 by_cases g2:99999999<id
 ·simp[qhz,Fr.ofArgs,g1,g2];exact qaz ⟨_,rfl,by simp⟩
 simp[qhz,Fr.ofArgs,g1,g2];refine qfq (fun q:Nat×Int×List UInt8=>⟨[(4,.d (I q.1)),(3,.d (.s q.2.2)),(0,.d (I q.2.1))],[]⟩) (fun q=>q.1≤8∧0≤q.2.1∧q.2.1≤99999999∧q.2.2.length=q.1) (fun q=>8-q.1) ?_ (0,id,[]) ⟨by simp only;omega,by simp only;omega,by simp only;omega,rfl⟩ (by simp[gc,Fr.keep,qaf,qab,qae,PV.refs,PV.refsL,qag,gcH,qah,Obj.refs,PV.ren,PV.renL,Obj.ren,Heap.obj,Fr.ren,gh,zzd])
 rintro B-⟨i,m,s⟩ ⟨hi,hn0,hn1,hl⟩ hx;simp only at hi hn0 hn1 hl⊢;by_cases hlt:i<8
 ·have h1:(i:Int)<8:=by omega
  have h3:=wr1 (i:=i) (by omega)
  obtain⟨p,hp,p1⟩ : ∃p:Nat,p<10∧m.tmod 10=p:=by
   rw[Int.tmod_eq_emod_of_nonneg (by omega)]
   exact⟨(m%10).toNat,by omega,by omega⟩
  have hq:0≤m.tdiv 10∧m.tdiv 10≤99999999:=by
   rw[Int.tdiv_eq_ediv_of_nonneg (by omega)];omega
  have q1:IntKind.i64.wrap (m.tdiv 10)=m.tdiv 10:=wrI (by omega) (by omega)
  have p3:IntKind.i64.wrap ((p:Int)+1)=(p:Int)+1:=wrI (by omega) (by omega)
  obtain⟨c2,hc2⟩:=qqU p hp;have b2:(p:Int)+1≤10:=by omega
  have b4:(p:Int)≤(p:Int)+1:=by omega
  have b6:(0:Int)≤(p:Int)+1:=by omega
  have m2:min p 9+1-p=1:=by omega
  have l2:1+s.length<4611686018427387904:=by omega
  have hx1:=hx (i+1,m.tdiv 10,c2::s) ⟨by simp only;omega,hq.1,hq.2,by simp[hl]⟩ (by simp only;omega)
  simp[qq1,h1,h3,p1,p3,q1,hc2,b2,b4,b6,m2,l2];exact hx1 _ _ (by simp[gc,Fr.keep,qaf,qab,qae,PV.refs,PV.refsL,qag,gcH,qah,Obj.refs,PV.ren,PV.renL,Obj.ren,Heap.obj,Fr.ren,gh,zzd])
 ·have h1 : ¬((i:Int)<8):=by omega
  have l2:s.length+1+1<4611686018427387904:=by omega
  have l3:2+s.length<4611686018427387904:=by omega
  obtain⟨r,e177,w,e,rfl,hw,he⟩:=qvq T hS (67::66::s) (by simp;omega)
  simp[qq1,h1,e177,l2,l3];exact qaz ⟨w,rfl,hw⟩
theorem qCe (T:Tab) (hS:HS T):qaj T 177 qvV:=by
 intro d ds hd;cases ds with
 |nil=>exact hd.elim
 |cons x ds =>
  cases ds with
  |cons=>exact hd.2.elim
  |nil =>
   obtain⟨cs,c1,c2⟩:=hd.1;obtain⟨w,r,rfl,⟨s,rfl,hs⟩,c3⟩:=qaY c2;obtain rfl:=qcv c3;cases c1;obtain⟨r,e,w,n,rfl,hw,hn⟩:=qvq T hS s hs;exact⟨[.s w,I n],false,e,qli hw,qfK hn,trivial⟩
theorem qAF (T:Tab) (hS:HS T):qaj T 106 qpV:=by
 intro d ds hd;cases ds with
 |nil=>exact hd.elim
 |cons x ds =>
  cases ds with
  |cons=>exact hd.2.elim
  |nil =>
   obtain⟨cs,c1,c2⟩:=hd.1;obtain⟨w,r,rfl,⟨n,rfl,hn⟩,c3⟩:=qaY c2;obtain rfl:=qcv c3;cases c1;obtain⟨r,e,w,rfl,hw⟩:=qIk T hS n hn;exact⟨[.s w],false,e,qli hw,trivial⟩
end Go.Sim
end
section
namespace Go.Sim
set_option maxRecDepth 10000
set_option maxHeartbeats 4000000
def qgG (o:Nat):List DV→PV
 | []=>.d (.l K0 [] true)
 | [_]=>.r o K0 0 1 true
 |l=>.r o K0 0 l.length false
def qgJ:List DV→Heap
 | []=>[]
 |l=>[some (.sl K0 0 l)]
section
variable {R : Type} {H : Heap} {id : Nat} {k : K} {b : Nat} {q : PV → Heap → Option R}
theorem qhA {o off len:Nat} {k':K}:bo2 (qcN H id k b (.r o k' off len true) []) (.h q)=match H.obj o with
  |some (.sl k'' _ es)=>chk ((K.eq k k'&&K.eq k k''&&decide (off+len≤es.length)&&decide (len*b≤2^47))=true) (.h (q (.r o k' off len true) H))
  | _=>none:=by
 simp only[qcN,qcn,qaW,qb6,Bool.true_or,if_true,chk,List.length_nil,Nat.add_zero,List.isEmpty_nil,Bool.or_true];cases H.obj o with
 |none=>rfl
 |some x =>
  cases x with
  |sl k'' ro es =>
   simp only;split<;>rfl
  | _=>rfl
end
def IsL (m:Nat) (r:PV×Bool):Prop:=∃(l:List DV) (own:Bool),r=(.d (.l K0 l false),own)∧l.length≤m∧∀x∈l,∃n,x=I n∧(Lit.int .i64 n).wf=true
theorem qjG {i:Int} {l:List DV} (wi:(Lit.int .i64 i).wf=true) (hw : ∀x∈l,∃n,x=I n∧(Lit.int .i64 n).wf=true) : ∀x∈I i::l,∃n,x=I n∧(Lit.int .i64 n).wf=true:=by
 intro x hx;rcases List.mem_cons.1 hx with rfl|hx
 ·exact⟨i,rfl,wi⟩
 ·exact hw x hx
theorem quR (T:Tab) (hS:HS T) {es:List DV} {t:Bool} {d:Nat} (hX:HsK d (K0,[.l (K1 4) 3518437208883 tGl]) (.l (K1 4) es t)) (n:Int) (hn:(Lit.int .i64 n).wf=true) :
  ∃i p k s b own,T.val 540 [.l (K1 4) es t,I n]=some (.t [.d (AGl.dv ⟨i,p,k,s⟩),.d (.b b)],own)∧(Lit.int .i64 i).wf=true∧(Lit.int .i64 p).wf=true:=by
 obtain⟨vs,own,h1,h2⟩:=qmb T hS d [.l (K1 4) es t,I n] ⟨hX,qfK hn,trivial⟩;cases vs with
 |nil=>exact h2.elim
 |cons v vs =>
  cases vs with
  |nil=>exact h2.2.elim
  |cons w vs =>
   cases vs with
   |cons=>exact h2.2.2.elim
   |nil =>
    obtain⟨⟨cs,c1,c2⟩,⟨ds,d1,d2⟩,-⟩:=h2;obtain⟨w1,r1,rfl,⟨i,rfl,q1⟩,c3⟩:=qaY c2;obtain⟨w2,r2,rfl,⟨p,rfl,q2⟩,c4⟩:=qaY c3;obtain⟨w3,r3,rfl,⟨k,rfl,q3⟩,c5⟩:=qaY c4;obtain⟨w4,r4,rfl,⟨s,rfl,q4⟩,c6⟩:=qaY c5;obtain rfl:=qcv c6;obtain⟨w5,r5,rfl,⟨b,rfl⟩,d3⟩:=qaY d2;obtain rfl:=qcv d3;cases d1;have e:v=AGl.dv ⟨i,p,k,s⟩:=(Option.some.inj c1).symm
    subst e;exact⟨i,p,k,s,b,own,h1,q1,q2⟩
theorem qBO (T:Tab) (hS:HS T) {es:List DV} {t:Bool} {d:Nat} (hX:HsK d (K0,[.l (K1 4) 3518437208883 tGl]) (.l (K1 4) es t)) (n:Int) (hn:(Lit.int .i64 n).wf=true):Anx (IsL 40) (T.val 1103 [.l (K1 4) es t,I n]):=by
 obtain⟨i0,p0,k0,s0,b0,own0,e0,wi0,wp0⟩:=quR T hS hX n hn;rw[qaZ T (hS 1103 qkR rfl) rfl];simp[qkR,Fr.ofArgs,e0];refine qfq (fun q:List DV×Bool×(Int×Int×Int×List UInt8)=>⟨[(7,.d (.b q.2.1)),(6,.p 0 0 0),(5,qgG 1 q.1),(0,.d (.l (K1 4) es t))],some (.box (K1 4) (.d (AGl.dv ⟨q.2.2.1,q.2.2.2.1,q.2.2.2.2.1,q.2.2.2.2.2⟩)))::qgJ q.1⟩) (fun q=>q.1.length≤40∧(∀x∈q.1,∃n,x=I n∧(Lit.int .i64 n).wf=true)∧(Lit.int .i64 q.2.2.1).wf=true∧(Lit.int .i64 q.2.2.2.1).wf=true) (fun q=>40-q.1.length) ?_ ([],b0,i0,p0,k0,s0) ⟨by simp,by simp,wi0,wp0⟩ (by simp[gc,Fr.keep,qaf,qab,qae,PV.refs,PV.refsL,qag,gcH,qah,Obj.refs,PV.ren,PV.renL,Obj.ren,Heap.obj,Fr.ren,gh,zzd,qgG,qgJ])
 rintro B-⟨l,b,i,p,k,s⟩ ⟨hl,hw,wi,wp⟩ hx;simp only at hl hw wi wp⊢;cases b with
 |false =>
  match l,hl,hw with
  | [],hl,hw =>
   simp[qg3,qgG,qgJ];exact qaz ⟨[],_,rfl,by simp,hw⟩
  | [x],hl,hw =>
   simp[qg3,qgG,qgJ];exact qaz ⟨[x],_,rfl,by simp,hw⟩
  |x::y::l,hl,hw =>
   simp[qg3,qgG,qgJ];exact qaz ⟨x::y::l,_,rfl,hl,hw⟩
 |true =>
  obtain⟨i2,p2,k2,s2,b2,own2,e2,wi2,wp2⟩:=quR T hS hX p wp;by_cases g40:l.length<40
  ·have hx':=hx (I i::l,b2,i2,p2,k2,s2) ⟨by simp only[zzn];omega,qjG wi hw,wi2,wp2⟩ (by simp only[zzn];omega)
   clear hx
   match l,hl,hw,hx',g40 with
   | [],hl,hw,hx',g40 =>
    simp only[qgG,qgJ] at hx'⊢;simp[qg3,↓qhA,g40];refine qf3 (fun h => ?_) (fun h => ?_)
    ·simp;exact qaz ⟨[I i],_,rfl,by simp,qjG wi hw⟩
    ·simp[e2];exact hx' _ _ (by simp[gc,Fr.keep,qaf,qab,qae,PV.refs,PV.refsL,qag,gcH,qah,Obj.refs,PV.ren,PV.renL,Obj.ren,Heap.obj,Fr.ren,gh,zzd])
   | [x],hl,hw,hx',g40 =>
    simp only[qgG,qgJ] at hx'⊢;simp[qg3,↓qhA,g40];refine qf3 (fun h => ?_) (fun h => ?_)
    ·simp;exact qaz ⟨[I i,x],_,rfl,by simp,qjG wi hw⟩
    ·simp[e2];exact hx' _ _ (by simp[gc,Fr.keep,qaf,qab,qae,PV.refs,PV.refsL,qag,gcH,qah,Obj.refs,PV.ren,PV.renL,Obj.ren,Heap.obj,Fr.ren,gh,zzd])
   |x::y::l,hl,hw,hx',g40 =>
    simp only[qgG,qgJ] at hx'⊢;have g1:(l.length:Int)+1+1<40:=by simp only[zzn] at g40;omega
    have g2:(1+(l.length+1+1))*8≤140737488355328:=by simp only[zzn] at g40;omega
    have g3:l.length+1+1+1=1+(l.length+1+1):=by omega
    have ht:l.take l.length=l:=List.take_of_length_le (zzt _)
    have tk:List.take (1+(l.length+1+1)) (I i::x::y::l)=I i::x::y::l:=List.take_of_length_le (by simp only[zzn];omega)
    simp[qg3,↓qhA,g1,g2,ht];refine qf3 (fun h => ?_) (fun h => ?_)
    ·simp[g3,ht];exact qaz ⟨I i::x::y::l,_,by rw[tk],by simp only[zzn] at g40⊢;omega,qjG wi hw⟩
    ·simp[e2];exact hx' _ _ (by simp[gc,Fr.keep,qaf,qab,qae,PV.refs,PV.refsL,qag,gcH,qah,Obj.refs,PV.ren,PV.renL,Obj.ren,Heap.obj,Fr.ren,gh,zzd];omega)
  ·match l,hl,hw,g40 with
   | [],hl,hw,g40=>exact absurd (by simp) g40
   | [x],hl,hw,g40=>exact absurd (by simp) g40
   |x::y::l,hl,hw,g40 =>
    have g1 : ¬((l.length:Int)+1+1<40):=by simp only[zzn] at g40;omega
    simp[qg3,qgG,qgJ,g1];exact qaz ⟨x::y::l,_,rfl,hl,hw⟩
theorem qyQ {d m:Nat} {r:PV×Bool} (h:IsL m r) (hm:m≤9223372036854775807) : ∃vs own,r=(qa1 (vs.map .d),own)∧qbu d [(K0,[.l K0 9223372036854775807 [.i .i64]])] vs:=by
 obtain⟨l,own,rfl,hl,hw⟩:=h;have hmx:maxLen=9223372036854775807:=rfl
 refine⟨[.l K0 l false],own,rfl,⟨[.l K0 l false],rfl,⟨l,false,rfl,by omega,by omega,fun e he => ?_⟩,trivial⟩,trivial⟩
 obtain⟨n,rfl,hn⟩:=hw e he;exact⟨[I n],rfl,⟨n,rfl,hn⟩,trivial⟩
theorem glI {d:Nat} {ds:List DV} (hd:qbu d [(K0,[.l (K1 4) 3518437208883 tGl]),(K0,[.i .i64])] ds) : ∃es t n,ds=[.l (K1 4) es t,I n]∧HsK d (K0,[.l (K1 4) 3518437208883 tGl]) (.l (K1 4) es t)∧(Lit.int .i64 n).wf=true∧es.length≤3518437208883:=by
 cases ds with
 |nil=>exact hd.elim
 |cons x ds =>
  cases ds with
  |nil=>exact hd.2.elim
  |cons y ds =>
   cases ds with
   |cons=>exact hd.2.2.elim
   |nil =>
    obtain⟨h1,⟨cs,c1,c2⟩,-⟩:=hd;obtain⟨w5,r5,rfl,⟨n,rfl,hn⟩,d3⟩:=qaY c2;obtain rfl:=qcv d3;cases c1;obtain⟨ds,q1,q2⟩:=id h1;obtain⟨w,r,rfl,⟨es,t,rfl,h3,h4,h5⟩,d3⟩:=qaY q2;obtain rfl:=qcv d3;cases q1;exact⟨es,t,n,rfl,h1,hn,h4⟩
theorem qzk (T:Tab) (hS:HS T):qaj T 1103 qqA:=by
 intro d ds hd;obtain⟨es,t,n,rfl,h1,hn,_⟩:=glI hd;obtain⟨r,e,hr⟩:=qBO T hS h1 n hn;obtain⟨vs,own,rfl,hv⟩:=qyQ (d:=d) hr (by omega)
 exact⟨vs,own,e,hv⟩
end Go.Sim
end
end
section
open Go.Sim
attribute [local simp ↓] qd7 qer qef qeb qet qeP qda qeJ sqK blK lpK qc8 qex qc2 qdL qc3 qe2 qeG qdF qdO qe0 qdi qeB qd1 qeN qdN qeE qep qdE qdT qdd qdU qeV qdj qdm qeX qdX qey qeq qds qdc qej qdy qdt qe4 qee qd6 qeC qeD qea qeH qd4 qdS qcP qem qeh qcU qdQ qe1 qdI qdq qed qdr qek qdC qeM qdK qev qd9 qe5 qdl qeg qeU qd0 qdV qdR qeY qde qdB qd3 qcl qdp qcH qcK qen qdx qeA qdu qeS qeW qeZ qfa qdD qeQ qeL qc7 qdo qdv qez qeT qdn
attribute [local simp] qb6 qdW qe8 qdA qd2 qdb qc6 qc4 qdh qdg qc9 rd IOp.adds qak gh nid rgK rdS qdP qeF qec qdJ qdz qdw qdG qeI qdf qe9 qd5 qel qe7 qeR qei qd8 qeK qc1 qe6 qdH qc5
section
namespace Go.Sim
set_option maxRecDepth 10000
set_option maxHeartbeats 2000000
def qh3 {α:Type} (p:α→Bool) (l:List α):Int:=match l.findIdx? p with|some j=>(j:Int)|none=>-1
theorem qup {α R:Type} (p:α→Bool) (r:Nat→Option R) (done:Unit→Option R) (step:Nat→Unit→α→(Unit→Option R)→Option R) (hs : ∀i b x c,step i b x c=if p x=true then r i else c ()) : ∀(i:Nat) (ls:List α),rounds step done i () ls=match ls.findIdx? p with|some j=>r (i+j)|none=>done ()
 |i,[]=>by simp[rounds]
 |i,x::l=>by
  rw[rounds,hs,qup p r done step hs (i+1) l,List.findIdx?_cons];cases h:p x with
  |true=>simp
  |false =>
   simp only[zzg,if_false];cases l.findIdx? p with
   |none=>simp
   |some j=>simp;congr 1;omega
section
variable {α : Type}
theorem qBz (T:Tab) (g:Nat) (q:K) (dv:α→DV) (p:α→Bool) (c:PV) (cs:List PV) (H0:Heap) (hH:Cl H0) (hc : ∀r∈PV.refsL (c::cs),r<H0.length) (l:List α) (hv : ∀x∈l,T.ref g (.d (dv x)::c::cs) H0=some (.d (.b (p x)),H0)) (s:Bool) (hn:l.length≤maxLen) {k:KC (PV×Heap)} {r:Nat→Option (PV×Heap)} {fr:Fr} {H:Heap}
  (hr : ∀(j:Nat) fr J,fr.get 4 = .d (I j)→qaF fr=[]→k .ret fr (H0++J)=r j)
  (h0:gc [0,1,7,8] H0.length ⟨fr,H⟩=⟨[(8,.d (I 0)),(7,.d (I l.length)),(1,.f g (c::cs)),(0,.d (.l q (l.map dv) s))],H0⟩) :
  kC T.env H0.length fr H (.h (.loop [0,1,7,8] (qmq q),k))=match l.findIdx? p with|some j=>r j|none=>k (.exit 0) [(9,.d (.b false)),(8,.d (I l.length)),(7,.d (I l.length)),(1,.f g (c::cs)),(0,.d (.l q (l.map dv) s))] H0:=by
 rw[qb7 l (fun i _=>⟨[(8,.d (I i)),(7,.d (I l.length)),(1,.f g (c::cs)),(0,.d (.l q (l.map dv) s))],H0⟩) (fun _ _=>True) (fun i _ x c=>if p x=true then r i else c ()) (fun _=>k (.exit 0) [(9,.d (.b false)),(8,.d (I l.length)),(7,.d (I l.length)),(1,.f g (c::cs)),(0,.d (.l q (l.map dv) s))] H0) ?_ ?_ h0 trivial]
 ·rw[qup p r _ _ (fun _ _ _ _=>rfl)]
  simp only[Nat.zero_add]
 ·intro B _ _ _;simp[qmq]
 ·intro B _ i _ hi _ cc hcc;have hm:=mxl
  have h1:(i:Int)<l.length:=by omega
  have h3:=wr1 (i:=i) (by omega)
  have he:=hv l[i] (zzs hi)
  simp[qmq,h1,hi,he];repeat' (refine qbr (fun h => ?_) (fun h => ?_)<;>(try simp at h)<;>(try simp[h,h3]))
  ·simpa using hr i _ [] (by simp[Fr.get]) (by simp[qaF,gh])
  ·refine hcc () _ _ trivial ?_;rw[qqf _ hH (by simpa[qab,Fr.keep,PV.refs,PV.refsL,gh] using hc)]
   simp[Fr.keep,gh]
theorem qtN (T:Tab) {n:Nat} {q:K} (hF:T.F n=some (qm1 q)) (g:Nat) (dv:α→DV) (p:α→Bool) (c:PV) (cs:List PV) (H0:Heap) (hH:Cl H0) (hc : ∀r∈PV.refsL (c::cs),r<H0.length) (l:List α) (hv : ∀x∈l,T.ref g (.d (dv x)::c::cs) H0=some (.d (.b (p x)),H0)) (s:Bool) (hn:l.length≤maxLen) :
  T.ref n [.d (.l q (l.map dv) s),.f g (c::cs)] H0=some (.d (I (qh3 p l)),H0):=by
 rw[qic T hF rfl];have lp:=fun k r fr H => @qBz α T g q dv p c cs H0 hH hc l hv s hn k r fr H
 simp[qm1,Fr.ofArgs];refine (lp _ (fun j=>some (.d (I j),H0)) _ _ ?_ ?_).trans ?_
 ·intro j fr J h1 h2;simp[h1,h2,qhB,qjI hH]
 ·rw[qqf _ hH (by simpa[qab,Fr.keep,PV.refs,PV.refsL,gh] using hc)]
  simp[Fr.keep,gh]
 ·unfold qh3;cases l.findIdx? p with
  |some j=>rfl
  |none=>simp[qhB,quD hH]
end
end Go.Sim
end
end
section
namespace Go.Sim
def tabU:PT :=
 (.bin 719 qhg (.bin 50 F50 (.bin 19 F19 (.bin 16 F16 (.bin 12 F12 .nil .nil) (.bin 18 F18 .nil .nil)) (.bin 30 F30 (.bin 24 F24 .nil .nil) .nil)) (.bin 683 qiw (.bin 603 qiL (.bin 59 F59 .nil .nil) (.bin 634 qjP .nil .nil)) (.bin 716 qkl (.bin 715 qjw .nil .nil) .nil))) (.bin 950 qg6 (.bin 918 qos (.bin 803 qkI (.bin 720 qku .nil .nil) (.bin 804 qkf .nil .nil)) (.bin 949 qsi (.bin 919 qgi .nil .nil) .nil)) (.bin 1094 qgR (.bin 1090 qgU (.bin 1023 qig .nil .nil) .nil) (.bin 1096 qgM (.bin 1095 qgP .nil .nil) .nil))))
end Go.Sim
end
section
open Go.Sim
attribute [local simp ↓] qd7 qer qef qeb qet qeP qda qeJ sqK blK lpK qc8 qex qc2 qdL qc3 qe2 qeG qdF qdO qe0 qdi qeB qd1 qeN qdN qeE qep qdE qdT qdd qdU qeV qdj qdm qeX qdX qey qeq qds qdc qej qdy qdt qe4 qee qd6 qeC qeD qea qeH qd4 qdS qcP qem qeh qcU qdQ qe1 qdI qdq qed qdr qek qdC qeM qdK qev qd9 qe5 qdl qeg qeU qd0 qdV qdR qeY qde qdB qd3 qcl qdp qcH qcK qen qdx qeA qdu qeS qeW qeZ qfa qdD qeQ qeL qc7 qdo qdv qez qeT qdn qfg
attribute [local simp] qb6 qdW qe8 qdA qd2 qdb qc6 qc4 qdh qdg qc9 rd IOp.adds qak gh nid rgK rdS qdP qeF qec qdJ qdz qdw qdG qeI qdf qe9 qd5 qel qe7 qeR qei qd8 qeK qc1 qe6 qdH qc5 qfi qfj qfs qcs qfo qfe qfl
section
namespace Go.Sim
set_option maxRecDepth 10000
set_option maxHeartbeats 4000000
def AAccount.zero:AAccount:=⟨0,0,0,0,[],[],[]⟩
def AInterest.zero:AInterest:=⟨⟨[],true⟩,false,0,0,false⟩
def AProduct.zero:AProduct:=⟨[],[],[],0,0,0,0,AInterest.zero,AInterest.zero,⟨[],true⟩,⟨[],true⟩⟩
def qh7 (id:Int) (a:AAccount):Bool:=a.Id==id
def qhF (b:ABooks) (id:Int):Option AAccount:=(b.Accounts.l.findIdx? (qh7 id)).bind fun j=>b.Accounts.l[j]?
abbrev HU (T:Tab):Prop:=∀n F,tabU.get n=some F→T.F n=some F
theorem qI9 (T:Tab) (hT:HU T) (a:AAccount) (b:ABooks) (id:Int):T.ref 19 [.d a.dv,.p 1 0 0] [some (.box (K1 22) (.d b.dv)),some (.box K0 (.d (I id)))]=some (.d (.b (qh7 id a)),[some (.box (K1 22) (.d b.dv)),some (.box K0 (.d (I id)))]):=by
 rw[qic T (hT 19 F19 rfl) rfl];have hH:=qvd (K1 22) K0 b.dv (I id)
 simp[F19,Fr.ofArgs,qhB,qh7];exact (qjI hH [some (.box (K1 7) (.d a.dv))] _)
theorem qFB (T:Tab) (hT:HU T) (b:ABooks) (id:Int) (hb:b.ok):T.val 16 [b.dv,I id]=some (.d (I (qh3 (qh7 id) b.Accounts.l)),false):=by
 rw[qaZ T (hT 16 F16 rfl) rfl];have e:=qtN T (hT 18 F18 rfl) 19 AAccount.dv (qh7 id) (.p 1 0 0) [] [some (.box (K1 22) (.d b.dv)),some (.box K0 (.d (I id)))] (qvd _ _ _ _) (by simp[PV.refs,PV.refsL]) b.Accounts.l (fun a _=>qI9 T hT a b id) b.Accounts.t (hb.2.2.2.2.2.1).1
 simp[F16,Fr.ofArgs,e]
theorem qsN (T:Tab) (hT:HU T) (b:ABooks) (id:Int) (hb:b.ok):T.val 12 [b.dv,I id]=some (.t [.d ((qhF b id).getD .zero).dv,.d (.b (qhF b id).isSome)],false):=by
 rw[qaZ T (hT 12 F12 rfl) rfl];have e:=qFB T hT b id hb
 unfold qh3 at e;unfold qhF;cases hf:b.Accounts.l.findIdx? (qh7 id) with
 |none =>
  rw[hf] at e;simp[F12,Fr.ofArgs,e];try rfl
 |some j =>
  rw[hf] at e;have hj:j<b.Accounts.l.length:=(List.findIdx?_eq_some_iff_findIdx_eq.1 hf).1
  simp[F12,Fr.ofArgs,e,hj];try rfl
end Go.Sim
end
section
namespace Go.Sim
set_option maxRecDepth 10000
set_option maxHeartbeats 4000000
def qaT {α β:Type} (f:Nat→β→α→β):Nat→β→List α→β
  | _,b,[]=>b
  |i,b,x::r=>qaT f (i+1) (f i b x) r
theorem qgV {α β R:Type} (f:Nat→β→α→β) (done:β→Option R) (step:Nat→β→α→(β→Option R)→Option R) (hs : ∀i b x c,step i b x c=c (f i b x)) : ∀(i:Nat) (b:β) (ls:List α),rounds step done i b ls=done (qaT f i b ls)
  |i,b,[]=>rfl
  |i,b,x::l=>by rw[rounds,hs,qaT,qgV f done step hs (i+1)]
theorem qv4 {α β:Type} (f:Nat→β→α→β) (P:Nat→β→Prop) (h : ∀i b x,P i b→P (i+1) (f i b x)) : ∀(l:List α) (i:Nat) (b:β),P i b→P (i+l.length) (qaT f i b l)
  | [],i,b,hb=>hb
  |x::l,i,b,hb=>by
    have:=qv4 f P h l (i+1) (f i b x) (h i b x hb)
    rw[zzn,show i+(l.length+1)=i+1+l.length by omega]
    exact this
def frm (l:List AProduct) (b:Int):Int:=match l[b.toNat]? with|some p=>p.From|none=>0
def cAt (l:List AProduct) (nm:List UInt8) (day b:Int) (p:AProduct):Bool:=(p.Name==nm)&&(decide (p.From≤day)&&(decide (b<0)||decide (frm l b<p.From)))
def fAt (l:List AProduct) (nm:List UInt8) (day:Int) (i:Nat) (b:Int) (p:AProduct):Int:=if cAt l nm day b p=true then (i:Int) else b
def bst (l:List AProduct) (nm:List UInt8) (day:Int):Int:=qaT (fAt l nm day) 0 (-1) l
def inB (i:Nat) (b:Int):Prop:=b = -1∨∃j:Nat,b=(j:Int)∧j<i
theorem qua (l:List AProduct) (nm:List UInt8) (day:Int) (i:Nat) (b:Int) (p:AProduct) (h:inB i b):inB (i+1) (fAt l nm day i b p):=by
  unfold fAt;split
  · exact .inr ⟨i,rfl,by omega⟩
  · rcases h with h|⟨j,h1,h2⟩
    · exact .inl h
    · exact .inr ⟨j,h1,by omega⟩
theorem qH1 (l:List AProduct) (nm:List UInt8) (day:Int):inB l.length (bst l nm day):=by
  have:=qv4 (fAt l nm day) inB (qua l nm day) l 0 (-1) (.inl rfl)
  simpa[bst] using this
def atP (l:List AProduct) (nm:List UInt8) (day:Int):Option AProduct:=if bst l nm day<0 then none else l[(bst l nm day).toNat]?
theorem qBV (T:Tab) (l:List AProduct) (t:Bool) (nm:List UInt8) (day:Int) (hn:l.length≤maxLen) {k:KC (PV×Bool)} {fr:Fr} {H:Heap}
    (h0:gc [0,1,2,6,8,11,12,13] 0 ⟨fr,H⟩=⟨[(13,.d (I 0)),(12,.d (I l.length)),(11,.d (.l (K1 19) (l.map AProduct.dv) t)),(8,.d (I (-1))),(6,.p 0 0 0),(2,.d (I day)),(1,.d (.s nm)),(0,.d (.l (K1 19) (l.map AProduct.dv) t))],[some (.box (K1 19) (.d AProduct.zero.dv))]⟩) :
    kC T.env 0 fr H (.h (.loop [0,1,2,6,8,11,12,13] qkE,k))=k (.exit 0) [(14,.d (.b false)),(13,.d (I l.length)),(12,.d (I l.length)),(11,.d (.l (K1 19) (l.map AProduct.dv) t)),(8,.d (I (bst l nm day))),(6,.p 0 0 0),(2,.d (I day)),(1,.d (.s nm)),(0,.d (.l (K1 19) (l.map AProduct.dv) t))] [some (.box (K1 19) (.d AProduct.zero.dv))]:=by
  rw[qb7 l (fun i b=>⟨[(13,.d (I i)),(12,.d (I l.length)),(11,.d (.l (K1 19) (l.map AProduct.dv) t)),(8,.d (I b)),(6,.p 0 0 0),(2,.d (I day)),(1,.d (.s nm)),(0,.d (.l (K1 19) (l.map AProduct.dv) t))],[some (.box (K1 19) (.d AProduct.zero.dv))]⟩) inB (fun i b x c=>c (fAt l nm day i b x)) (fun b=>k (.exit 0) [(14,.d (.b false)),(13,.d (I l.length)),(12,.d (I l.length)),(11,.d (.l (K1 19) (l.map AProduct.dv) t)),(8,.d (I b)),(6,.p 0 0 0),(2,.d (I day)),(1,.d (.s nm)),(0,.d (.l (K1 19) (l.map AProduct.dv) t))] [some (.box (K1 19) (.d AProduct.zero.dv))]) ?_ ?_ h0 (.inl rfl)]
  · rw[qgV (fAt l nm day) _ _ (fun _ _ _ _=>rfl)];rfl
  · intro B _ b _
    simp[qkE]
  · intro B _ i b hi hv c hc
    have hm:=mxl
    have h1:(i:Int)<l.length:=by omega
    have h3:=wr1 (i:=i) (by omega)
    have hs:=qua l nm day i b l[i] hv
    rcases hv with rfl|⟨j,rfl,hj⟩
    · simp[qkE,h1,hi,↓qbn,↓qbf,↓qbc,↓qbe,qbh,↓qbj,↓qbi,↓qbd,↓qbk,qa6,writeS,touchS,qat,qaR,chg,qa2,runs,qaP,qa4,PV.refs,IOp.okD,Nat.testBit]
      repeat' (refine qbr (fun h => ?_) (fun h => ?_)<;>(try simp at h)<;>(try simp[h,h3,↓qbt,↓qbf,↓qbc,↓qbe,qbh,↓qbj,↓qbp,↓qbi,↓qbd,↓qbk,↓qbs,qa6,writeS,touchS,qat,qaR,chg,qa2,runs,qaP,qa4,PV.refs,PV.refsL,IOp.okD,Nat.testBit]))
      all_goals first
        | (have e:fAt l nm day i (-1) l[i]=(i:Int):=by simp[fAt,cAt, *]
           rw[e] at hs⊢;exact hc _ _ _ hs (by simp[gc,Fr.keep,qaf,qab,qae,PV.refs,qag,gcH,qah,Obj.refs,PV.ren,Obj.ren,Heap.obj,Fr.ren,gh,zzd]))
        | (have e:fAt l nm day i (-1) l[i] = -1:=by simp[fAt,cAt, *]
           rw[e] at hs⊢;exact hc _ _ _ hs (by simp[gc,Fr.keep,qaf,qab,qae,PV.refs,qag,gcH,qah,Obj.refs,PV.ren,Obj.ren,Heap.obj,Fr.ren,gh,zzd]))
    · have hj1:j<l.length:=by omega
      have hj2:(j:Int)<l.length:=by omega
      have hg:l[j]? = some l[j]:=zze hj1
      simp[qkE,h1,hi,↓qbn,↓qbf,↓qbc,↓qbe,qbh,↓qbj,↓qbi,↓qbd,↓qbk,qa6,writeS,touchS,qat,qaR,chg,qa2,runs,qaP,qa4,PV.refs,IOp.okD,Nat.testBit];repeat' (refine qbr (fun h => ?_) (fun h => ?_)<;>(try simp at h)<;>(try simp[h,h3,hj1,hj2,↓qbt,↓qbf,↓qbc,↓qbe,qbh,↓qbj,↓qbp,↓qbi,↓qbd,↓qbk,↓qbs,qa6,writeS,touchS,qat,qaR,chg,qa2,runs,qaP,qa4,PV.refs,PV.refsL,IOp.okD,Nat.testBit]))
      all_goals first
        | (have e:fAt l nm day i j l[i]=(i:Int):=by simp[fAt,cAt,frm, *]
           rw[e] at hs⊢;exact hc _ _ _ hs (by simp[gc,Fr.keep,qaf,qab,qae,PV.refs,qag,gcH,qah,Obj.refs,PV.ren,Obj.ren,Heap.obj,Fr.ren,gh,zzd]))
        | (have e:fAt l nm day i j l[i]=j:=by
             simp[fAt,cAt,frm, *];try omega
           rw[e] at hs⊢;exact hc _ _ _ hs (by simp[gc,Fr.keep,qaf,qab,qae,PV.refs,qag,gcH,qah,Obj.refs,PV.ren,Obj.ren,Heap.obj,Fr.ren,gh,zzd]))
theorem qGO (T:Tab) (hT:HU T) (l:List AProduct) (t:Bool) (nm:List UInt8) (day:Int) (hn:l.length≤maxLen):T.val 30 [.l (K1 19) (l.map AProduct.dv) t,.s nm,I day]=some (.t [.d ((atP l nm day).getD .zero).dv,.d (.b (atP l nm day).isSome)],false):=by
  rw[qaZ T (hT 30 F30 rfl) rfl];have lp:=fun k fr H => @qBV T l t nm day hn k fr H
  simp[F30,Fr.ofArgs];refine (lp _ _ _ (by simp[gc,Fr.keep,qaf,qab,qae,PV.refs,qag,gcH,qah,Obj.refs,PV.ren,Obj.ren,Heap.obj,Fr.ren,gh,zzd];rfl)).trans ?_
  have hb:=qH1 l nm day
  unfold atP;generalize bst l nm day=b at hb⊢;rcases hb with rfl|⟨j,rfl,hj⟩
  · simp
    try rfl
  · have hj2:(j:Int)<l.length:=by omega
    have hg:l[j]? = some l[j]:=zze hj
    simp[hj,hj2];repeat' (refine qbr (fun h => ?_) (fun h => ?_)<;>(try simp at h)<;>(try simp[h,hj,hj2]))
end Go.Sim
end
section
namespace Go.Sim
set_option maxRecDepth 10000
set_option maxHeartbeats 4000000
def qkG (b:ABooks) (id day:Int):Option AProduct:=match qhF b id with|some a=>atP b.Products.l a.Product day|none=>none
theorem qDj (T:Tab) (hT:HU T) (b:ABooks) (id day:Int) (hb:b.ok):T.val 24 [b.dv,I id,I day]=some (.t [.d ((qkG b id day).getD .zero).dv,.d (.b (qkG b id day).isSome)],false):=by
 rw[qaZ T (hT 24 F24 rfl) rfl];have e1:=qsN T hT b id hb
 have e2:=fun nm=>qGO T hT b.Products.l b.Products.t nm day (hb.2.2.2.2.1).1
 unfold qkG;cases hf:qhF b id with
 |none =>
  rw[hf] at e1;simp only[Option.getD_none,Option.isSome_none] at e1;simp[F24,Fr.ofArgs,e1];try rfl
 |some a =>
  rw[hf] at e1;simp only[Option.getD_some,Option.isSome_some] at e1;simp[F24,Fr.ofArgs,e1,e2]
def w64 (n:Int):Int:=IntKind.i64.wrap n
def qdY (b:ABooks) (id day:Int):Int×Int:=match qhF b id,qkG b id day with
 |some a,some p=>(w64 (-(w64 (p.Overdraft+a.Extra))),0)
 | _,_=>(0,11)
theorem qC1 (T:Tab) (hT:HU T) (b:ABooks) (id day:Int) (hb:b.ok):T.val 719 [b.dv,I id,I day]=some (.t [.d (I (qdY b id day).1),.d (I (qdY b id day).2)],false):=by
 rw[qaZ T (hT 719 qhg rfl) rfl];have e1:=qsN T hT b id hb
 have e2:=qDj T hT b id day hb
 unfold qdY;cases hf:qhF b id with
 |none =>
  rw[hf] at e1;simp only[Option.getD_none,Option.isSome_none] at e1;simp[qhg,Fr.ofArgs,e1,e2]
 |some a =>
  rw[hf] at e1;simp only[Option.getD_some,Option.isSome_some] at e1;cases hp:qkG b id day with
  |none =>
   rw[hp] at e2;simp only[Option.getD_none,Option.isSome_none] at e2;simp[qhg,Fr.ofArgs,e1,e2]
  |some p =>
   rw[hp] at e2;simp only[Option.getD_some,Option.isSome_some] at e2;simp[qhg,Fr.ofArgs,e1,e2,w64]
end Go.Sim
end
section
namespace Go.Sim
set_option maxRecDepth 10000
set_option maxHeartbeats 4000000
def qgk (acc day:Int) (_:Nat) (n:Int) (h:AHold):Int:=if (h.Account==acc&&(decide (h.From≤day)&&decide (day≤h.To)))=true then w64 (n+h.Amount) else n
def qhO (l:List AHold) (acc day:Int):Int:=qaT (qgk acc day) 0 0 l
theorem qAR (T:Tab) (l:List AHold) (t:Bool) (acc day:Int) (hn:l.length≤maxLen) {k:KC (PV×Bool)} {fr:Fr} {H:Heap} (h0:gc [1,2,7,10,11,12] 0 ⟨fr,H⟩=⟨[(12,(.d (I (0:Int)))),(11,(.d (I l.length))),(10,(.d (.l (K1 6) (l.map AHold.dv) t))),(7,(.d (I 0))),(2,(.d (I day))),(1,(.d (I acc)))],[]⟩) :
    kC T.env 0 fr H (.h (.loop [1,2,7,10,11,12] ql4,k))=k (.exit 0) [(13,.d (.b false)),(12,(.d (I (l.length:Int)))),(11,(.d (I l.length))),(10,(.d (.l (K1 6) (l.map AHold.dv) t))),(7,(.d (I (qaT (qgk acc day) 0 0 l)))),(2,(.d (I day))),(1,(.d (I acc)))] []:=by
  rw[qb7 l (fun i (b:Int)=>⟨[(12,(.d (I (i:Int)))),(11,(.d (I l.length))),(10,(.d (.l (K1 6) (l.map AHold.dv) t))),(7,(.d (I b))),(2,(.d (I day))),(1,(.d (I acc)))],[]⟩) (fun _ _=>True) (fun i b x c=>c (qgk acc day i b x)) (fun b=>k (.exit 0) [(13,.d (.b false)),(12,(.d (I (l.length:Int)))),(11,(.d (I l.length))),(10,(.d (.l (K1 6) (l.map AHold.dv) t))),(7,(.d (I b))),(2,(.d (I day))),(1,(.d (I acc)))] []) ?_ ?_ h0 trivial]
  · rw[qgV (qgk acc day) _ _ (fun _ _ _ _=>rfl)]
  · intro B _ b _
    simp[ql4]
  · intro B _ i b hi _ c hc
    have hm:=mxl
    have h1:(i:Int)<l.length:=by omega
    have h3:=wr1 (i:=i) (by omega)
    simp[ql4,h1,hi];repeat' (refine qbr (fun h => ?_) (fun h => ?_)<;>(try simp at h)<;>(try simp[h,h3]))
    all_goals first
      | (have e:(qgk acc day) i b l[i]=w64 (b+l[i].Amount):=by
           simp[qgk,w64, *];try (intros;omega)
         rw[e];exact hc _ _ _ trivial (by simp[gc,Fr.keep,qaf,qab,qae,PV.refs,gcH,PV.ren,Obj.ren,Heap.obj,Fr.ren,gh];try rfl))
      | (have e:(qgk acc day) i b l[i]=b:=by
           simp[qgk,w64, *];try (intros;omega)
         rw[e];exact hc _ _ _ trivial (by simp[gc,Fr.keep,qaf,qab,qae,PV.refs,gcH,PV.ren,Obj.ren,Heap.obj,Fr.ren,gh];try rfl))
theorem qIa (T:Tab) (hT:HU T) (l:List AHold) (t:Bool) (acc day:Int) (hn:l.length≤maxLen):T.val 716 [.l (K1 6) (l.map AHold.dv) t,I acc,I day]=some (.d (I (qhO l acc day)),false):=by
  rw[qaZ T (hT 716 qkl rfl) rfl];simp[qkl,Fr.ofArgs];refine (qAR T l t acc day hn (by simp[gc,Fr.keep,qaf,qab,qae,PV.refs,gcH,PV.ren,Obj.ren,Heap.obj,Fr.ren,gh])).trans ?_
  simp[qhO]
end Go.Sim
end
end
section
open Go.Sim
attribute [local simp ↓] qd7 qer qef qeb qet qeP qda qeJ sqK blK lpK qc8 qex qc2 qdL qc3 qe2 qeG qdF qdO qe0 qdi qeB qd1 qeN qdN qeE qep qdE qdT qdd qdU qeV qdj qdm qeX qdX qey qeq qds qdc qej qdy qdt qe4 qee qd6 qeC qeD qea qeH qd4 qdS qcP qem qeh qcU qdQ qe1 qdI qdq qed qdr qek qdC qeM qdK qev qd9 qe5 qdl qeg qeU qd0 qdV qdR qeY qde qdB qd3 qcl qdp qcH qcK qen qdx qeA qdu qeS qeW qeZ qfa qdD qeQ qeL qc7 qdo qdv qez qeT qdn qfg qfD qfu qfH qft qfR qfp qfA qfO qfI qfC qfM
attribute [local simp] qb6 qdW qe8 qdA qd2 qdb qc6 qc4 qdh qdg qc9 rd IOp.adds qak gh nid rgK rdS qdP qeF qec qdJ qdz qdw qdG qeI qdf qe9 qd5 qel qe7 qeR qei qd8 qeK qc1 qe6 qdH qc5 qfi qfj qfs qcs qfo qfe qfl qfL qfB qfN qfG
section
namespace Go.Sim
set_option maxRecDepth 10000
set_option maxHeartbeats 4000000
def qcj (acc day:Int) (x:ABlock):Bool:=x.Account==acc&&(decide (x.From≤day)&&decide (day≤x.To))
def qaU (k:K):List DV→PV
  | []=>.d (.l k [] true)
  | _x::r=>.r 0 k 0 (r.length+1) false
def qaV (k:K):List DV→Heap
  | []=>[]
  |x::r=>[some (.sl k 0 (x::r))]
theorem qJD (T:Tab) (l:List ABlock) (t:Bool) (acc day:Int) (hn:l.length≤100000) {k:KC (PV×Bool)} {fr:Fr} {H:Heap}
    (hk : ∀(out:List ABlock),out.length≤l.length→k (.exit 0) ((13,.d (.b false))::[(12,(.d (I (l.length:Int)))),(11,(.d (I l.length))),(10,(.d (.l (K1 7) (l.map ABlock.dv) t))),(7,(qaU (K1 7) (out.map ABlock.dv))),(2,(.d (I day))),(1,(.d (I acc)))]) (qaV (K1 7) (out.map ABlock.dv))=some (.d (.l (K1 7) (out.map ABlock.dv) false),true))
    (h0:gc [1,2,7,10,11,12] 0 ⟨fr,H⟩=⟨[(12,(.d (I (0:Int)))),(11,(.d (I l.length))),(10,(.d (.l (K1 7) (l.map ABlock.dv) t))),(7,(qaU (K1 7) [])),(2,(.d (I day))),(1,(.d (I acc)))],qaV (K1 7) []⟩) :
    kC T.env 0 fr H (.h (.loop [1,2,7,10,11,12] qiJ,k))=some (.d (.l (K1 7) ((l.filter (qcj acc day)).map ABlock.dv) false),true):=by
  have hm:=mxl
  rw[qb7 l (fun i (out:List ABlock)=>⟨[(12,(.d (I (i:Int)))),(11,(.d (I l.length))),(10,(.d (.l (K1 7) (l.map ABlock.dv) t))),(7,(qaU (K1 7) (out.map ABlock.dv))),(2,(.d (I day))),(1,(.d (I acc)))],qaV (K1 7) (out.map ABlock.dv)⟩) (fun i out=>out.length≤i) (fun i out x c=>c (if qcj acc day x=true then out++[x] else out)) (fun out=>if out.length≤l.length then some (.d (.l (K1 7) (out.map ABlock.dv) false),true) else k (.exit 0) ((13,.d (.b false))::[(12,(.d (I (l.length:Int)))),(11,(.d (I l.length))),(10,(.d (.l (K1 7) (l.map ABlock.dv) t))),(7,(qaU (K1 7) (out.map ABlock.dv))),(2,(.d (I day))),(1,(.d (I acc)))]) (qaV (K1 7) (out.map ABlock.dv))) ?_ ?_ (b0:=[]) h0 (zzt _)]
  · rw[qgV (fun _ out x=>if qcj acc day x=true then out++[x] else out) _ _ (fun _ _ _ _=>rfl)]
    have key : ∀(l:List ABlock) (i:Nat) (out:List ABlock),qaT (fun _ out x=>if qcj acc day x=true then out++[x] else out) i out l=out++l.filter (qcj acc day):=by
      intro l;induction l with
      |nil=>intro i out;simp[qaT]
      |cons x l ih=>intro i out;rw[qaT,ih,List.filter_cons];split<;>simp
    rw[key,List.nil_append,if_pos (List.length_filter_le _ _)]
  · intro B _ out ho
    rw[if_pos ho,←hk out ho];have h1 : ¬((l.length:Int)<l.length):=by omega
    cases out with
    |nil=>simp[qiJ,qaU,qaV]
    |cons x out=>simp[qiJ,qaU,qaV]
  · intro B _ i out hi ho c hc
    have h1:(i:Int)<l.length:=by omega
    have h3:=wr1 (i:=i) (by omega)
    have hs:(if qcj acc day l[i]=true then out++[l[i]] else out).length≤i+1:=by
      split
      · simp only[zzp,zzn,List.length_nil];omega
      · omega
    have h4:(out.length+1)*64≤2^47:=by omega
    have h4':(out.length+1)*64≤140737488355328:=by omega
    cases out with
    |nil =>
      simp[qiJ,h1,hi,qaU,qaV];repeat' (refine qbr (fun h => ?_) (fun h => ?_)<;>(try simp at h)<;>(try simp[h,h3]))
      all_goals first
        | (have e:(if qcj acc day l[i]=true then [l[i]] else [])=[l[i]]:=by simp[qcj, *]
           rw[e];exact hc _ _ _ (by simp) (by simp[gc,Fr.keep,qaf,qab,qae,PV.refs,qag,gcH,qah,Obj.refs,PV.ren,Obj.ren,Heap.obj,Fr.ren,gh,zzd,qaU,qaV]))
        | (have e:(if qcj acc day l[i]=true then [l[i]] else [])=[]:=by
             simp[qcj, *];try omega
           rw[e];exact hc _ _ _ (by simp) (by simp[gc,Fr.keep,qaf,qab,qae,PV.refs,gcH,PV.ren,Obj.ren,Heap.obj,Fr.ren,gh,qaU,qaV]))
    |cons x out =>
      have h5:(out.length+1+1)*64≤140737488355328:=by simpa using h4'
      have ht:(out.map ABlock.dv).take out.length=out.map ABlock.dv:=List.take_of_length_le (by simp)
      simp only[zzn] at ho;simp[qiJ,h1,hi,qaU,qaV];repeat' (refine qbr (fun h => ?_) (fun h => ?_)<;>(try simp at h)<;>(try simp[h,h3,h5]))
      all_goals first
        | (have e:(if qcj acc day l[i]=true then x::(out++[l[i]]) else x::out)=x::(out++[l[i]]):=by simp[qcj, *]
           rw[e];exact hc _ _ _ (by simp;omega) (by simp[gc,Fr.keep,qaf,qab,qae,PV.refs,qag,gcH,qah,Obj.refs,PV.ren,Obj.ren,Heap.obj,Fr.ren,gh,zzd,qaU,qaV,ht]))
        | (have e:(if qcj acc day l[i]=true then x::(out++[l[i]]) else x::out)=x::out:=by
             simp[qcj, *];try omega
           rw[e];exact hc _ _ _ (by simp;omega) (by simp[gc,Fr.keep,qaf,qab,qae,PV.refs,qag,gcH,qah,Obj.refs,PV.ren,Obj.ren,Heap.obj,Fr.ren,gh,zzd,qaU,qaV]))
theorem qBg (T:Tab) (hT:HU T) (l:List ABlock) (t:Bool) (acc day:Int) (hn:l.length≤100000):T.val 803 [.l (K1 7) (l.map ABlock.dv) t,I acc,I day]=some (.d (.l (K1 7) ((l.filter (qcj acc day)).map ABlock.dv) false),true):=by
  rw[qaZ T (hT 803 qkI rfl) rfl];simp[qkI,Fr.ofArgs];refine qJD T l t acc day hn (fun out ho => ?_) (by simp[gc,Fr.keep,qaf,qab,qae,PV.refs,gcH,PV.ren,Obj.ren,Heap.obj,Fr.ren,gh,qaU,qaV])
  cases out with
  |nil=>simp[qaU,qaV]
  |cons x out =>
    have ht:(out.map ABlock.dv).take out.length=out.map ABlock.dv:=List.take_of_length_le (by simp)
    simp[qaU,qaV,ht]
def qnA (x:ABlock):DV:=if x.Kind=1 then .ifc 185 (.a []) else if x.Kind=2 then .ifc 186 (.a []) else if x.Kind=3 then .ifc 187 (.a []) else if x.Kind=4 then .ifc 128 (.a [I x.Amount]) else .ifc 188 (.a [])
theorem qDl (T:Tab) (hT:HU T) (x:ABlock):T.val 804 [x.dv]=some (.d (qnA x),false):=by
  rw[qaZ T (hT 804 qkf rfl) rfl];simp[qkf,Fr.ofArgs];repeat' (refine qbr (fun h => ?_) (fun h => ?_)<;>(try simp at h)<;>(try simp[h,↓qly,↓qjF,↓qkv,putAt,mkA,qa0,qf5,qjC]))
  all_goals simp_all[qnA]
def qg1 (_:Nat) (n:Int) (x:ABlock):Int:=if (x.Kind==4)=true then w64 (n+x.Amount) else n
def qkU (l:List ABlock) (acc day:Int):Int:=qaT qg1 0 0 (l.filter (qcj acc day))
theorem qCI (x:ABlock) : ∃u v,qnA x = .ifc u v∧((u=128∧v = .a [I x.Amount]∧x.Kind=4)∨(u≠128∧x.Kind≠4)):=by
  unfold qnA;by_cases h1:x.Kind=1
  · exact⟨185,.a [],by rw[if_pos h1],.inr ⟨by decide,by omega⟩⟩
  by_cases h2:x.Kind=2
  · exact⟨186,.a [],by rw[if_neg h1,if_pos h2],.inr ⟨by decide,by omega⟩⟩
  by_cases h3:x.Kind=3
  · exact⟨187,.a [],by rw[if_neg h1,if_neg h2,if_pos h3],.inr ⟨by decide,by omega⟩⟩
  by_cases h4:x.Kind=4
  · exact⟨128,_,by rw[if_neg h1,if_neg h2,if_neg h3,if_pos h4],.inl ⟨rfl,rfl,h4⟩⟩
  · exact⟨188,.a [],by rw[if_neg h1,if_neg h2,if_neg h3,if_neg h4],.inr ⟨by decide,h4⟩⟩
theorem qzO (T:Tab) (l:List ABlock) (t:Bool) (hT:HU T) (hn:l.length≤maxLen) {k:KC (PV×Bool)} {fr:Fr} {H:Heap} (h0:gc [7,15,16,17] 0 ⟨fr,H⟩=⟨[(17,(.d (I (0:Int)))),(16,(.d (I l.length))),(15,(.d (.l (K1 7) (l.map ABlock.dv) t))),(7,(.d (I 0)))],[]⟩) :
    kC T.env 0 fr H (.h (.loop [7,15,16,17] qjv,k))=k (.exit 0) [(18,.d (.b false)),(17,(.d (I (l.length:Int)))),(16,(.d (I l.length))),(15,(.d (.l (K1 7) (l.map ABlock.dv) t))),(7,(.d (I (qaT (qg1) 0 0 l))))] []:=by
  rw[qb7 l (fun i (b:Int)=>⟨[(17,(.d (I (i:Int)))),(16,(.d (I l.length))),(15,(.d (.l (K1 7) (l.map ABlock.dv) t))),(7,(.d (I b)))],[]⟩) (fun _ _=>True) (fun i b x c=>c (qg1 i b x)) (fun b=>k (.exit 0) [(18,.d (.b false)),(17,(.d (I (l.length:Int)))),(16,(.d (I l.length))),(15,(.d (.l (K1 7) (l.map ABlock.dv) t))),(7,(.d (I b)))] []) ?_ ?_ h0 trivial]
  · rw[qgV (qg1) _ _ (fun _ _ _ _=>rfl)]
  · intro B _ b _
    simp[qjv]
  · intro B _ i b hi _ c hc
    have hm:=mxl
    have h1:(i:Int)<l.length:=by omega
    have h3:=wr1 (i:=i) (by omega)
    have hv:=qDl T hT l[i]
    obtain⟨u,v,hc1,⟨rfl,rfl,hk⟩|⟨hu,hk⟩⟩:=qCI l[i]
    · rw[hc1] at hv
      have e:qg1 i b l[i]=w64 (b+l[i].Amount):=by simp[qg1,hk]
      simp[qjv,h1,hi,hv];rw[e];exact hc _ _ _ trivial (by simp[gc,Fr.keep,qaf,qab,qae,PV.refs,gcH,PV.ren,Obj.ren,Heap.obj,Fr.ren,gh,h3,w64])
    · rw[hc1] at hv
      have e:qg1 i b l[i]=b:=by simp[qg1,hk]
      simp[qjv,h1,hi,h3,hv,hu];rw[e];exact hc _ _ _ trivial (by simp[gc,Fr.keep,qaf,qab,qae,PV.refs,gcH,PV.ren,Obj.ren,Heap.obj,Fr.ren,gh])
theorem qCm (T:Tab) (hT:HU T) (l:List ABlock) (t:Bool) (acc day:Int) (hn:l.length≤100000):T.val 720 [.l (K1 7) (l.map ABlock.dv) t,I acc,I day]=some (.d (I (qkU l acc day)),false):=by
  rw[qaZ T (hT 720 qku rfl) rfl];have e:=qBg T hT l t acc day hn
  have hl:(l.filter (qcj acc day)).length≤maxLen:=by
    have:=List.length_filter_le (qcj acc day) l
    have hm:=mxl
    omega
  simp[qku,Fr.ofArgs,e];refine (qzO T (l.filter (qcj acc day)) false hT hl (by simp[gc,Fr.keep,qaf,qab,qae,PV.refs,gcH,PV.ren,Obj.ren,Heap.obj,Fr.ren,gh])).trans ?_
  simp[qkU]
end Go.Sim
end
section
namespace Go.Sim
set_option maxRecDepth 10000
set_option maxHeartbeats 4000000
end Go.Sim
end
section
namespace Go.Sim
set_option maxRecDepth 10000
set_option maxHeartbeats 4000000
end Go.Sim
end
end
section
open Go.Sim
attribute [local simp ↓] qd7 qer qef qeb qet qeP qda qeJ sqK blK lpK qc8 qex qc2 qdL qc3 qe2 qeG qdF qdO qe0 qdi qeB qd1 qeN qdN qeE qep qdE qdT qdd qdU qeV qdj qdm qeX qdX qey qeq qds qdc qej qdy qdt qe4 qee qd6 qeC qeD qea qeH qd4 qdS qcP qem qeh qcU qdQ qe1 qdI qdq qed qdr qek qdC qeM qdK qev qd9 qe5 qdl qeg qeU qd0 qdV qdR qeY qde qdB qd3 qcl qdp qcH qcK qen qdx qeA qdu qeS qeW qeZ qfa qdD qeQ qeL qc7 qdo qdv qez qeT qdn qfg qfD qfu qfH qft qfR qfp qfA qfO qfI qfC qfM qfT qf6
attribute [local simp] qb6 qdW qe8 qdA qd2 qdb qc6 qc4 qdh qdg qc9 rd IOp.adds qak gh nid rgK rdS qdP qeF qec qdJ qdz qdw qdG qeI qdf qe9 qd5 qel qe7 qeR qei qd8 qeK qc1 qe6 qdH qc5 qfi qfj qfs qcs qfo qfe qfl qfL qfB qfN qfG
section
namespace Go.Sim
set_option maxRecDepth 10000
set_option maxHeartbeats 4000000
def qcT (acc:Int) (_:Nat) (n:Int) (x:ALeg):Int:=if (x.Account==acc)=true then w64 (n-x.Amount) else n
def qtq (acc:Int) (e:AEntry):Int:=qaT (qcT acc) 0 0 e.Legs.l
def qnm (acc:Int) (_:Nat) (n:Int) (e:AEntry):Int:=w64 (n+qtq acc e)
def ofR (j:List AEntry) (acc:Int):Int:=qaT (qnm acc) 0 0 j
end Go.Sim
end
section
namespace Go.Sim
set_option maxRecDepth 10000
set_option maxHeartbeats 4000000
end Go.Sim
end
end
section
namespace Go.Sim
def lsb {α:Type} (f:α→α→Bool):List α→List α→Bool
 | [],[]=>true
 |x::xs,y::ys=>f x y&&lsb f xs ys
 | _,_=>false
theorem qcW {α:Type} {f:α→α→Bool} (h : ∀x,f x x=true) : ∀l,lsb f l l=true
 | []=>rfl
 |x::l=>by simp[lsb,h,qcW h l]
def ibq (x y:Int):Bool:=x==y
theorem qcz (x:Int):ibq x x=true:=by simp[ibq]
def sbq (x y:List UInt8):Bool:=x==y
theorem qdM (x:List UInt8):sbq x x=true:=by simp[sbq]
def bbq (x y:Bool):Bool:=x==y
theorem qEI (x:Bool):bbq x x=true:=by simp[bbq]
mutual
def deq:DV→DV→Bool
 | .b x,.b y=>x==y
 | .i k n,.i k' m=>decide (k=k')&&decide (n=m)
 | .s x,.s y=>x==y
 | .a cs,.a ds=>qiD cs ds
 | .l _ es _,.l _ fs _=>qiD es fs
 | .np,.np=>true
 | .nf,.nf=>true
 | .ni,.ni=>true
 | .nm,.nm=>true
 | .ifc t v,.ifc t' w=>Nat.beq t t'&&deq v w
 | .tok n,.tok m=>Nat.beq n m
 | _,_=>false
def qiD:List DV→List DV→Bool
 | [],[]=>true
 |x::xs,y::ys=>deq x y&&qiD xs ys
 | _,_=>false
end
mutual
theorem qwc : ∀x,deq x x=true
 | .b x=>by simp[deq]
 | .i k n=>by simp[deq]
 | .s x=>by simp[deq]
 | .a cs=>by simp[deq,qnt cs]
 | .l k es t=>by simp[deq,qnt es]
 | .np=>rfl
 | .nf=>rfl
 | .ni=>rfl
 | .nm=>rfl
 | .ifc t v=>by simp[deq,qwc v]
 | .tok n=>by simp[deq]
theorem qnt : ∀x,qiD x x=true
 | []=>rfl
 |x::xs=>by simp[qiD,qwc x,qnt xs]
end
def ACurrency.beq (x y:ACurrency):Bool:=sbq x.Code y.Code&&ibq x.Digits y.Digits
theorem ACurrency.beq_refl (x:ACurrency):ACurrency.beq x x=true:=by
 simp only[ACurrency.beq,qdM,qcz,Bool.and_true]
def ACalendar.beq (x y:ACalendar):Bool:=sbq x.Name y.Name&&lsb ibq x.Weekend.l y.Weekend.l&&lsb ibq x.Holidays.l y.Holidays.l
theorem ACalendar.beq_refl (x:ACalendar):ACalendar.beq x x=true:=by
 simp only[ACalendar.beq,qdM,qcW qcz,Bool.and_true]
def AVar.beq (x y:AVar):Bool:=sbq x.Name y.Name&&ibq x.Typ y.Typ
theorem AVar.beq_refl (x:AVar):AVar.beq x x=true:=by
 simp only[AVar.beq,qdM,qcz,Bool.and_true]
def ATier.beq (x y:ATier):Bool:=ibq x.From y.From&&ibq x.Ppm y.Ppm
theorem ATier.beq_refl (x:ATier):ATier.beq x x=true:=by
 simp only[ATier.beq,qcz,Bool.and_true]
def AInterest.beq (x y:AInterest):Bool:=lsb ATier.beq x.Tiers.l y.Tiers.l&&bbq x.Marginal y.Marginal&&ibq x.Basis y.Basis&&ibq x.Mode y.Mode&&bbq x.Keep y.Keep
theorem AInterest.beq_refl (x:AInterest):AInterest.beq x x=true:=by
 simp only[AInterest.beq,qcW ATier.beq_refl,qEI,qcz,Bool.and_true]
def AExpr.beq (x y:AExpr):Bool:=ibq x.Op y.Op&&ibq x.N y.N&&sbq x.S y.S&&qiD x.Args.l y.Args.l
theorem AExpr.beq_refl (x:AExpr):AExpr.beq x x=true:=by
 simp only[AExpr.beq,qcz,qdM,qnt,Bool.and_true]
def AFee.beq (x y:AFee):Bool:=sbq x.Name y.Name&&ibq x.Event y.Event&&AExpr.beq x.When y.When&&AExpr.beq x.Amount y.Amount
theorem AFee.beq_refl (x:AFee):AFee.beq x x=true:=by
 simp only[AFee.beq,qdM,qcz,AExpr.beq_refl,Bool.and_true]
def ARule.beq (x y:ARule):Bool:=sbq x.Name y.Name&&ibq x.Window y.Window&&AExpr.beq x.Amount y.Amount
theorem ARule.beq_refl (x:ARule):ARule.beq x x=true:=by
 simp only[ARule.beq,qdM,qcz,AExpr.beq_refl,Bool.and_true]
def AProduct.beq (x y:AProduct):Bool:=sbq x.Name y.Name&&sbq x.Currency y.Currency&&sbq x.Calendar y.Calendar&&ibq x.From y.From&&ibq x.Every y.Every&&ibq x.Overdraft y.Overdraft&&ibq x.TaxPpm y.TaxPpm&&AInterest.beq x.Credit y.Credit&&AInterest.beq x.Debit y.Debit&&lsb AFee.beq x.Fees.l y.Fees.l&&lsb ARule.beq x.Rules.l y.Rules.l
theorem AProduct.beq_refl (x:AProduct):AProduct.beq x x=true:=by
 simp only[AProduct.beq,qdM,qcz,AInterest.beq_refl,qcW AFee.beq_refl,qcW ARule.beq_refl,Bool.and_true]
def AGl.beq (x y:AGl):Bool:=ibq x.Id y.Id&&ibq x.Parent y.Parent&&ibq x.Kind y.Kind&&sbq x.Name y.Name
theorem AGl.beq_refl (x:AGl):AGl.beq x x=true:=by
 simp only[AGl.beq,qcz,qdM,Bool.and_true]
def ALeg.beq (x y:ALeg):Bool:=ibq x.Account y.Account&&ibq x.Amount y.Amount&&sbq x.Currency y.Currency
theorem ALeg.beq_refl (x:ALeg):ALeg.beq x x=true:=by
 simp only[ALeg.beq,qcz,qdM,Bool.and_true]
def AEntry.beq (x y:AEntry):Bool:=ibq x.Id y.Id&&ibq x.Booked y.Booked&&ibq x.Value y.Value&&ibq x.Kind y.Kind&&ibq x.Auth y.Auth&&ibq x.Period y.Period&&sbq x.Key y.Key&&sbq x.Text y.Text&&lsb ALeg.beq x.Legs.l y.Legs.l&&ibq x.Chain y.Chain
theorem AEntry.beq_refl (x:AEntry):AEntry.beq x x=true:=by
 simp only[AEntry.beq,qcz,qdM,qcW ALeg.beq_refl,Bool.and_true]
def AHold.beq (x y:AHold):Bool:=ibq x.Id y.Id&&ibq x.Account y.Account&&ibq x.Amount y.Amount&&ibq x.From y.From&&ibq x.To y.To&&sbq x.Key y.Key
theorem AHold.beq_refl (x:AHold):AHold.beq x x=true:=by
 simp only[AHold.beq,qcz,qdM,Bool.and_true]
def ABlock.beq (x y:ABlock):Bool:=ibq x.Id y.Id&&ibq x.Account y.Account&&ibq x.Kind y.Kind&&ibq x.Amount y.Amount&&ibq x.From y.From&&ibq x.To y.To&&sbq x.Source y.Source
theorem ABlock.beq_refl (x:ABlock):ABlock.beq x x=true:=by
 simp only[ABlock.beq,qcz,qdM,Bool.and_true]
def AAccount.beq (x y:AAccount):Bool:=ibq x.Id y.Id&&ibq x.Opened y.Opened&&ibq x.Closed y.Closed&&ibq x.Extra y.Extra&&sbq x.Owner y.Owner&&sbq x.Product y.Product&&sbq x.Number y.Number
theorem AAccount.beq_refl (x:AAccount):AAccount.beq x x=true:=by
 simp only[AAccount.beq,qcz,qdM,Bool.and_true]
def APlan.beq (x y:APlan):Bool:=ibq x.Cash y.Cash&&ibq x.Deposits y.Deposits&&ibq x.InterestPaid y.InterestPaid&&ibq x.InterestEarned y.InterestEarned&&ibq x.FeeEarned y.FeeEarned&&ibq x.Tax y.Tax&&ibq x.Clearing y.Clearing&&ibq x.Loans y.Loans&&ibq x.LoanInterest y.LoanInterest&&ibq x.Penalty y.Penalty&&ibq x.Provision y.Provision&&ibq x.ProvisionCost y.ProvisionCost&&ibq x.Loss y.Loss&&ibq x.Recovery y.Recovery
theorem APlan.beq_refl (x:APlan):APlan.beq x x=true:=by
 simp only[APlan.beq,qcz,Bool.and_true]
def ABooks.beq (x y:ABooks):Bool:=lsb ACurrency.beq x.Currencies.l y.Currencies.l&&lsb ACalendar.beq x.Calendars.l y.Calendars.l&&lsb AGl.beq x.Chart.l y.Chart.l&&APlan.beq x.Plan y.Plan&&lsb AProduct.beq x.Products.l y.Products.l&&lsb AAccount.beq x.Accounts.l y.Accounts.l&&lsb AEntry.beq x.Journal.l y.Journal.l&&lsb AHold.beq x.Holds.l y.Holds.l&&lsb ABlock.beq x.Blocks.l y.Blocks.l
theorem ABooks.beq_refl (x:ABooks):ABooks.beq x x=true:=by
 simp only[ABooks.beq,qcW ACurrency.beq_refl,qcW ACalendar.beq_refl,qcW AGl.beq_refl,APlan.beq_refl,qcW AProduct.beq_refl,qcW AAccount.beq_refl,qcW AEntry.beq_refl,qcW AHold.beq_refl,qcW ABlock.beq_refl,Bool.and_true]
end Go.Sim
end
section
open Go.Sim
attribute [local simp ↓] qd7 qer qef qeb qet qeP qda qeJ sqK blK lpK qc8 qex qc2 qdL qc3 qe2 qeG qdF qdO qe0 qdi qeB qd1 qeN qdN qeE qep qdE qdT qdd qdU qeV qdj qdm qeX qdX qey qeq qds qdc qej qdy qdt qe4 qee qd6 qeC qeD qea qeH qd4 qdS qcP qem qeh qcU qdQ qe1 qdI qdq qed qdr qek qdC qeM qdK qev qd9 qe5 qdl qeg qeU qd0 qdV qdR qeY qde qdB qd3 qcl qdp qcH qcK qen qdx qeA qdu qeS qeW qeZ qfa qdD qeQ qeL qc7 qdo qdv qez qeT qdn qfg qfD qfu qfH qft qfR qfp qfA qfO qfI qfC qfM qfT qf6
attribute [local simp] qb6 qdW qe8 qdA qd2 qdb qc6 qc4 qdh qdg qc9 rd IOp.adds qak gh nid rgK rdS qdP qeF qec qdJ qdz qdw qdG qeI qdf qe9 qd5 qel qe7 qeR qei qd8 qeK qc1 qe6 qdH qc5 qfi qfj qfs qcs qfo qfe qfl qfL qfB qfN qfG
section
namespace Go.Sim
theorem qDH {e:DV} (h:XE e) : ∃a:AExpr,e=a.dv∧a.ok:=by
 cases h with
 |mk o n s a h1 h2 h3 h4 =>
  cases h4 with
  |mk es h5 h6 h7=>exact⟨⟨o,n,s,⟨es,false⟩⟩,rfl,h1,h2,h3,.mk es h5 h6 h7⟩
theorem qxb {es:List DV} {t:Bool} (h:XL (.l (K1 4) es t)):es.length≤maxLen∧∃l:List AExpr,es=l.map AExpr.dv∧∀a∈l,a.ok:=by
 cases h with
 |mk _ h5 h6=>exact⟨h5,qmf fun e he=>qDH (h6 e he)⟩
theorem qqS {x a:AExpr} (h:a.dv∈x.Args.l):SizeOf.sizeOf a.dv<SizeOf.sizeOf x.dv:=by
 have h1:=List.sizeOf_lt_of_mem h
 have h2:SizeOf.sizeOf x.Args.l<SizeOf.sizeOf x.dv:=by
  simp only[AExpr.dv,DV.a.sizeOf_spec,List.cons.sizeOf_spec,DV.l.sizeOf_spec];omega
 omega
end Go.Sim
end
section
namespace Go.Sim
set_option maxRecDepth 10000
set_option maxHeartbeats 4000000
mutual
def qaA:DV→Int→Int
 | .a [_,_,_,.l _ es _],m=>qb9 es 1 m
 | _,_=>1
def qb9:List DV→Int→Int→Int
 | [],n,_=>n
 |e::es,n,m=>if n≤m then qb9 es (n+qaA e (m-n)) m else n
end
mutual
theorem qnr : ∀(e:DV) (m:Int),0≤m→1≤qaA e m∧qaA e m≤m+1
 | .a [_,_,_,.l _ es _],m,h=>by
  unfold qaA;exact qxg es 1 m (by omega) (by omega)
 | .a [],m,h=>by unfold qaA;omega
 | .a [_],m,h=>by unfold qaA;omega
 | .a [_,_],m,h=>by unfold qaA;omega
 | .a [_,_,_],m,h=>by unfold qaA;omega
 | .a (_::_::_ :: .b _::_),m,h=>by unfold qaA;omega
 | .a (_::_::_ :: .i _ _::_),m,h=>by unfold qaA;omega
 | .a (_::_::_ :: .s _::_),m,h=>by unfold qaA;omega
 | .a (_::_::_ :: .a _::_),m,h=>by unfold qaA;omega
 | .a (_::_::_ :: .np::_),m,h=>by unfold qaA;omega
 | .a (_::_::_ :: .nf::_),m,h=>by unfold qaA;omega
 | .a (_::_::_ :: .ni::_),m,h=>by unfold qaA;omega
 | .a (_::_::_ :: .nm::_),m,h=>by unfold qaA;omega
 | .a (_::_::_ :: .ifc _ _::_),m,h=>by unfold qaA;omega
 | .a (_::_::_ :: .tok _::_),m,h=>by unfold qaA;omega
 | .a (_::_::_ :: .l _ _ _::_::_),m,h=>by unfold qaA;omega
 | .b _,m,h=>by unfold qaA;omega
 | .i _ _,m,h=>by unfold qaA;omega
 | .s _,m,h=>by unfold qaA;omega
 | .l _ _ _,m,h=>by unfold qaA;omega
 | .np,m,h=>by unfold qaA;omega
 | .nf,m,h=>by unfold qaA;omega
 | .ni,m,h=>by unfold qaA;omega
 | .nm,m,h=>by unfold qaA;omega
 | .ifc _ _,m,h=>by unfold qaA;omega
 | .tok _,m,h=>by unfold qaA;omega
theorem qxg : ∀(es:List DV) (n m:Int),1≤n→n≤m+1→1≤qb9 es n m∧qb9 es n m≤m+1
 | [],n,m,h1,h2=>⟨h1,h2⟩
 |e::es,n,m,h1,h2=>by
  unfold qb9;split
  ·rename_i h
   have:=qnr e (m-n) (by omega)
   exact qxg es _ m (by omega) (by omega)
  ·exact⟨h1,h2⟩
end
theorem qBm (T:Tab) (x:AExpr) (l:List AExpr) (hl:x.Args.l=l.map AExpr.dv) (m:Int) (hm0:0≤m) (hm1:m≤1000) (hn:l.length≤maxLen) (hv : ∀y∈l,∀m',0≤m'→m'≤1000→T.val 950 [y.dv,I m']=some (.d (I (qaA y.dv m')),false)) {k:KC (PV×Bool)} {r:Int→Option (PV×Bool)} {fr:Fr} {H:Heap}
  (hk : ∀(i:Nat) (n:Int),k (.exit 0) [(16,.d (.b false)),(6,.d (I i)),(5,.d (I n)),(2,.p 0 0 0),(1,.d (I m))] [some (.box (K1 4) (.d x.dv))]=r n)
  (h0:gc [1,2,5,6] 0 ⟨fr,H⟩=⟨[(6,.d (I 0)),(5,.d (I 1)),(2,.p 0 0 0),(1,.d (I m))],[some (.box (K1 4) (.d x.dv))]⟩) :
  kC T.env 0 fr H (.h (.loop [1,2,5,6] qmt,k))=r (qb9 x.Args.l 1 m):=by
 have hm:=mxl
 rw[qb7 l (fun i (n:Int)=>⟨[(6,.d (I i)),(5,.d (I n)),(2,.p 0 0 0),(1,.d (I m))],[some (.box (K1 4) (.d x.dv))]⟩) (fun _ n=>1≤n∧n≤m+1) (fun i n y c=>if n≤m then c (n+qaA y.dv (m-n)) else r n) r ?_ ?_ h0 ⟨by omega,by omega⟩]
 ·have key : ∀(es:List AExpr) (i:Nat) (n:Int),rounds (fun i n y c=>if n≤m then c (n+qaA (AExpr.dv y) (m-n)) else r n) r i n es=r (qb9 (es.map AExpr.dv) n m):=by
   intro es;induction es with
   |nil=>intro i n;simp[rounds,qb9]
   |cons y es ih =>
    intro i n;rw[rounds,zzu,qb9];split
    ·exact ih _ _
    ·rfl
  rw[hl];exact key l 0 1
 ·intro B _ n _
  have:=hk l.length n
  simp[qmt,hl];exact this
 ·intro B _ i n hi hn1 c hc;have h1:(i:Int)<l.length:=by omega
  have h3:=wr1 (i:=i) (by omega)
  have h4:IntKind.i64.wrap (m-n)=m-n:=wrI (by omega) (by omega)
  simp[qmt,h1,hl];refine qbr (fun h => ?_) (fun h => ?_)
  ·simp at h;have hb:=qnr l[i].dv (m-n) (by omega)
   have h5:IntKind.i64.wrap (n+qaA l[i].dv (m-n))=n+qaA l[i].dv (m-n):=wrI (by omega) (by omega)
   have hw:=hv l[i] (zzs hi) (m-n) (by omega) (by omega)
   simp[h,h1,hi,h3,h4,h5,hw,hl];exact hc _ _ _ ⟨by omega,by omega⟩ (by simp[gc,Fr.keep,qaf,qab,qae,PV.refs,qag,gcH,qah,Obj.refs,PV.ren,Obj.ren,Heap.obj,Fr.ren,gh,zzd])
  ·simp at h;have h' : ¬n≤m:=by omega
   simp[h'];exact hk i n
theorem qop (T:Tab) (hT:HU T) : ∀(n:Nat) (x:AExpr),SizeOf.sizeOf x.dv<n→x.ok→∀m,0≤m→m≤1000→T.val 950 [x.dv,I m]=some (.d (I (qaA x.dv m)),false)
 | 0,_,h,_,_,_,_=>absurd h (zzm _)
 |n+1,x,hs,hx,m,h0,h1=>by
  obtain⟨hlen,l,hl,hlo⟩:=qxb hx.2.2.2;rw[qaZ T (hT 950 qg6 rfl) rfl];have hn:l.length≤maxLen:=by rw[hl] at hlen;simpa using hlen
  have lp:=fun k r fr H => @qBm T x l hl m h0 h1 hn (fun y hy=>qop T hT n y (by have:=qqS (x:=x) (a:=y) (by rw[hl];exact List.mem_map_of_mem hy);omega) (hlo _ hy)) k r fr H
  simp[qg6,Fr.ofArgs];refine (lp _ (fun n=>some (.d (I n),false)) _ _ (fun i n => ?_) (by simp[gc,Fr.keep,qaf,qab,qae,PV.refs,qag,gcH,qah,Obj.refs,PV.ren,Obj.ren,Heap.obj,Fr.ren,gh,zzd])).trans ?_
  ·simp
  ·rfl
theorem qrL (T:Tab) (hT:HU T) (x:AExpr) (hx:x.ok):T.val 919 [x.dv,I 100]=some (.d (.b (decide (100<qaA x.dv 100))),false):=by
 rw[qaZ T (hT 919 qgi rfl) rfl];have e:=qop T hT _ x (Nat.lt_succ_self _) hx 100 (by decide) (by decide)
 simp[qgi,Fr.ofArgs,e]
end Go.Sim
end
section
namespace Go.Sim
set_option maxRecDepth 10000
set_option maxHeartbeats 8000000
def qfc {R:Type} (n:Nat) (k:KC R) (r:Option R):Prop:=∀fr H,fr.get n = .d (.b true)→qaF fr=[]→k .ret fr H=r
theorem qhW {R:Type} {n id:Nat} {k:KC R} {r:Option R}:qfc n (blK id k) r=qfc n k r:=rfl
theorem qhX {R:Type} {n:Nat} {E:Env} {base:Nat} {b:PC} {k:KC R} {r:Option R}:qfc n (sqK E base b k) r=qfc n k r:=rfl
theorem qhl {n:Nat} {E:Env}:qfc n (fin E [.t n]) (some (.d (.b true),false))=True:=by
  refine eq_true ?_;intro fr H h1 h2;rw[qcl h2,qcK,qcH,h1];rfl
def qga (h:AHold):Bool:=decide (200<h.Key.length)
def qid (l:List AHold):Bool:=decide (100<l.length)||l.any qga
def qfZ (x:ALeg):Bool:=decide (100<x.Currency.length)
def qfm (e:AEntry):Bool:=decide (30<e.Legs.l.length)||decide (1000<e.Key.length)||decide (1000<e.Text.length)||e.Legs.l.any qfZ
def grX (x:AExpr):Bool:=decide (100<qaA x.dv 100)
def qf9 (f:AFee):Bool:=decide (100<f.Name.length)||grX f.When||grX f.Amount
def qgb (f:ARule):Bool:=decide (100<f.Name.length)||grX f.Amount
def qfb (p:AProduct):Bool:=decide (100<p.Name.length)||decide (100<p.Currency.length)||decide (100<p.Calendar.length)||decide (20<p.Credit.Tiers.l.length)||decide (20<p.Debit.Tiers.l.length)||decide (10<p.Fees.l.length)||decide (10<p.Rules.l.length)||p.Fees.l.any qf9||p.Rules.l.any qgb
def qf2 (c:ACalendar):Bool:=decide (400<c.Holidays.l.length)||decide (20<c.Weekend.l.length)
def qhi (b:ABooks):Bool:=decide (20<b.Currencies.l.length)||decide (10<b.Calendars.l.length)||decide (60<b.Chart.l.length)||decide (20<b.Products.l.length)||decide (40<b.Accounts.l.length)||decide (150<b.Journal.l.length)||qid b.Holds.l||decide (100<b.Blocks.l.length)||b.Products.l.any qfb||b.Journal.l.any qfm||b.Calendars.l.any qf2
theorem qEQ (T:Tab) (l:List AHold) (t:Bool) (hn:l.length≤maxLen) {k:KC (PV×Bool)} {r:Option (PV×Bool)} {fr:Fr} {H:Heap} (hr:qfc 2 k r) (h0:gc [0,3] 0 ⟨fr,H⟩=⟨[(3,(.d (I (0:Int)))),(0,(.d (.l (K1 6) (l.map AHold.dv) t)))],[]⟩) :
    kC T.env 0 fr H (.h (.loop [0,3] qnQ,k))=brn (l.any (qga)) (.h (r,k (.exit 0) [(10,.d (.b false)),(3,(.d (I (l.length:Int)))),(0,(.d (.l (K1 6) (l.map AHold.dv) t)))] [])):=by
  have hm:=mxl
  rw[qb7 l (fun i _=>⟨[(3,(.d (I (i:Int)))),(0,(.d (.l (K1 6) (l.map AHold.dv) t)))],[]⟩) (fun _ _=>True) (fun i _ x c=>if (qga) x=true then r else c ()) (fun _=>k (.exit 0) [(10,.d (.b false)),(3,(.d (I (l.length:Int)))),(0,(.d (.l (K1 6) (l.map AHold.dv) t)))] []) ?_ ?_ h0 trivial]
  · rw[qgY (qga) r]
    · cases l.any (qga)<;>rfl
    · exact fun _ _ _ _=>rfl
  · intro B _ _ _
    simp[qnQ]
  · intro B _ i _ hi _ c hc
    have h1:(i:Int)<l.length:=by omega
    have h3:=wr1 (i:=i) (by omega)
    simp[qnQ,h1,hi];repeat' (refine qbr (fun h => ?_) (fun h => ?_)<;>(try simp at h)<;>(try simp[h3]))
    all_goals first
      | (have e:(qga) l[i]=true:=by
           simp[qga, *];try omega
         rw[if_pos e];exact hr _ _ (by simp[Fr.get]) (by simp[qaF,gh]))
      | (have e : ¬(qga) l[i]=true:=by
           simp[qga, *];try omega
         rw[if_neg e];exact hc () _ _ trivial (by simp[gc,Fr.keep,qaf,qab,qae,PV.refs,gcH,PV.ren,Obj.ren,Heap.obj,Fr.ren,gh]))
theorem qJn (T:Tab) (hT:HU T) (l:List AHold) (t:Bool) (hn:l.length≤maxLen):T.val 1094 [.l (K1 6) (l.map AHold.dv) t]=some (.d (.b (qid l)),false):=by
  rw[qaZ T (hT 1094 qgR rfl) rfl];have lp:=fun k fr H => @qEQ T l t hn k (some (.d (.b true),false)) fr H
  obtain⟨q,hq⟩ : ∃q,l.any qga=q:=⟨_,rfl⟩;simp only[hq] at lp;have hs:qid l=(decide (100<l.length)||q):=by rw[qid,hq]
  clear hq
  simp[qgR,Fr.ofArgs];repeat' first
    | (refine qbr (fun h => ?_) (fun h => ?_)<;>(try simp at h)<;>(try simp))
    |refine (lp _ _ _ (by simp[qhW,qhX,qhl]) (by simp[gc,Fr.keep,qaf,qab,qae,PV.refs,gcH,PV.ren,Obj.ren,Heap.obj,Fr.ren,gh])).trans ?_
  all_goals simp_all
  all_goals omega
theorem qA8 (T:Tab) (e:AEntry) (hn:e.Legs.l.length≤maxLen) {k:KC (PV×Bool)} {r:Option (PV×Bool)} {fr:Fr} {H:Heap} (hr:qfc 2 k r) (h0:gc [1,3] 0 ⟨fr,H⟩=⟨[(3,(.d (I (0:Int)))),(1,(.p 0 0 0))],[some (.box (K1 10) (.d e.dv))]⟩) :
    kC T.env 0 fr H (.h (.loop [1,3] qms,k))=brn (e.Legs.l.any (qfZ)) (.h (r,k (.exit 0) [(24,.d (.b false)),(3,(.d (I (e.Legs.l.length:Int)))),(1,(.p 0 0 0))] [some (.box (K1 10) (.d e.dv))])):=by
  have hm:=mxl
  rw[qb7 e.Legs.l (fun i _=>⟨[(3,(.d (I (i:Int)))),(1,(.p 0 0 0))],[some (.box (K1 10) (.d e.dv))]⟩) (fun _ _=>True) (fun i _ x c=>if (qfZ) x=true then r else c ()) (fun _=>k (.exit 0) [(24,.d (.b false)),(3,(.d (I (e.Legs.l.length:Int)))),(1,(.p 0 0 0))] [some (.box (K1 10) (.d e.dv))]) ?_ ?_ h0 trivial]
  · rw[qgY (qfZ) r]
    · cases e.Legs.l.any (qfZ)<;>rfl
    · exact fun _ _ _ _=>rfl
  · intro B _ _ _
    simp[qms]
  · intro B _ i _ hi _ c hc
    have h1:(i:Int)<e.Legs.l.length:=by omega
    have h3:=wr1 (i:=i) (by omega)
    simp[qms,h1,hi];repeat' (refine qbr (fun h => ?_) (fun h => ?_)<;>(try simp at h)<;>(try simp[h3]))
    all_goals first
      | (have e:(qfZ) e.Legs.l[i]=true:=by
           simp[qfZ, *];try omega
         rw[if_pos e];exact hr _ _ (by simp[Fr.get]) (by simp[qaF,gh]))
      | (have e : ¬(qfZ) e.Legs.l[i]=true:=by
           simp[qfZ, *];try omega
         rw[if_neg e];exact hc () _ _ trivial (by simp[gc,Fr.keep,qaf,qab,qae,PV.refs,qag,gcH,qah,Obj.refs,PV.ren,Obj.ren,Heap.obj,Fr.ren,gh,zzd]))
theorem qCO (T:Tab) (hT:HU T) (e:AEntry) (he:e.ok):T.val 1096 [e.dv]=some (.d (.b (qfm e)),false):=by
  rw[qaZ T (hT 1096 qgM rfl) rfl];have lp:=fun k fr H => @qA8 T e (he.2.2.2.2.2.2.2.2.1).1 k (some (.d (.b true),false)) fr H
  obtain⟨q,hq⟩ : ∃q,e.Legs.l.any qfZ=q:=⟨_,rfl⟩;simp only[hq] at lp;have hs:qfm e=(decide (30<e.Legs.l.length)||decide (1000<e.Key.length)||decide (1000<e.Text.length)||q):=by rw[qfm,hq]
  clear hq
  simp[qgM,Fr.ofArgs];repeat' first
    | (refine qbr (fun h => ?_) (fun h => ?_)<;>(try simp at h)<;>(try simp[h]))
    |refine (lp _ _ _ (by simp[qhW,qhX,qhl]) (by simp[gc,Fr.keep,qaf,qab,qae,PV.refs,qag,gcH,qah,Obj.refs,PV.ren,Obj.ren,Heap.obj,Fr.ren,gh,zzd])).trans ?_
  all_goals simp_all
  all_goals omega
end Go.Sim
end
section
namespace Go.Sim
set_option maxRecDepth 10000
set_option maxHeartbeats 8000000
theorem qDJ (T:Tab) (hT:HU T) (p:AProduct) (hn:p.Fees.l.length≤maxLen) (ho : ∀f∈p.Fees.l,f.ok) {k:KC (PV×Bool)} {r:Option (PV×Bool)} {fr:Fr} {H:Heap} (hr:qfc 2 k r) (h0:gc [1,3] 0 ⟨fr,H⟩=⟨[(3,(.d (I (0:Int)))),(1,(.p 0 0 0))],[some (.box (K1 19) (.d p.dv))]⟩) :
    kC T.env 0 fr H (.h (.loop [1,3] qnH,k))=brn (p.Fees.l.any (qf9)) (.h (r,k (.exit 0) [(51,.d (.b false)),(3,(.d (I (p.Fees.l.length:Int)))),(1,(.p 0 0 0))] [some (.box (K1 19) (.d p.dv))])):=by
  have hm:=mxl
  rw[qb7 p.Fees.l (fun i _=>⟨[(3,(.d (I (i:Int)))),(1,(.p 0 0 0))],[some (.box (K1 19) (.d p.dv))]⟩) (fun _ _=>True) (fun i _ x c=>if (qf9) x=true then r else c ()) (fun _=>k (.exit 0) [(51,.d (.b false)),(3,(.d (I (p.Fees.l.length:Int)))),(1,(.p 0 0 0))] [some (.box (K1 19) (.d p.dv))]) ?_ ?_ h0 trivial]
  · rw[qgY (qf9) r]
    · cases p.Fees.l.any (qf9)<;>rfl
    · exact fun _ _ _ _=>rfl
  · intro B _ _ _
    simp[qnH]
  · intro B _ i _ hi _ c hc
    have h1:(i:Int)<p.Fees.l.length:=by omega
    have h3:=wr1 (i:=i) (by omega)
    have o1:=ho _ (zzs hi)
    have e0:=qrL T hT p.Fees.l[i].When o1.2.2.1
    have e1:=qrL T hT p.Fees.l[i].Amount o1.2.2.2
    simp[qnH,h1,hi];repeat' (refine qbr (fun h => ?_) (fun h => ?_)<;>(try simp at h)<;>(try simp[h,h1,hi,h3,e0,e1]))
    all_goals first
      | (have e:(qf9) p.Fees.l[i]=true:=by
           simp[qf9,grX, *];try omega
         rw[if_pos e];exact hr _ _ (by simp[Fr.get]) (by simp[qaF,gh]))
      | (have e : ¬(qf9) p.Fees.l[i]=true:=by
           simp[qf9,grX, *];try omega
         rw[if_neg e];exact hc () _ _ trivial (by simp[gc,Fr.keep,qaf,qab,qae,PV.refs,qag,gcH,qah,Obj.refs,PV.ren,Obj.ren,Heap.obj,Fr.ren,gh,zzd]))
theorem qHJ (T:Tab) (hT:HU T) (p:AProduct) (hn:p.Rules.l.length≤maxLen) (ho : ∀f∈p.Rules.l,f.ok) {k:KC (PV×Bool)} {r:Option (PV×Bool)} {fr:Fr} {H:Heap} (hr:qfc 2 k r) (h0:gc [1,4] 0 ⟨fr,H⟩=⟨[(4,(.d (I (0:Int)))),(1,(.p 0 0 0))],[some (.box (K1 19) (.d p.dv))]⟩) :
    kC T.env 0 fr H (.h (.loop [1,4] qmH,k))=brn (p.Rules.l.any (qgb)) (.h (r,k (.exit 2) [(84,.d (.b false)),(4,(.d (I (p.Rules.l.length:Int)))),(1,(.p 0 0 0))] [some (.box (K1 19) (.d p.dv))])):=by
  have hm:=mxl
  rw[qb7 p.Rules.l (fun i _=>⟨[(4,(.d (I (i:Int)))),(1,(.p 0 0 0))],[some (.box (K1 19) (.d p.dv))]⟩) (fun _ _=>True) (fun i _ x c=>if (qgb) x=true then r else c ()) (fun _=>k (.exit 2) [(84,.d (.b false)),(4,(.d (I (p.Rules.l.length:Int)))),(1,(.p 0 0 0))] [some (.box (K1 19) (.d p.dv))]) ?_ ?_ h0 trivial]
  · rw[qgY (qgb) r]
    · cases p.Rules.l.any (qgb)<;>rfl
    · exact fun _ _ _ _=>rfl
  · intro B _ _ _
    simp[qmH]
  · intro B _ i _ hi _ c hc
    have h1:(i:Int)<p.Rules.l.length:=by omega
    have h3:=wr1 (i:=i) (by omega)
    have o1:=ho _ (zzs hi)
    have e1:=qrL T hT p.Rules.l[i].Amount o1.2.2
    simp[qmH,h1,hi];repeat' (refine qbr (fun h => ?_) (fun h => ?_)<;>(try simp at h)<;>(try simp[h,h1,hi,h3,e1]))
    all_goals first
      | (have e:(qgb) p.Rules.l[i]=true:=by
           simp[qgb,grX, *];try omega
         rw[if_pos e];exact hr _ _ (by simp[Fr.get]) (by simp[qaF,gh]))
      | (have e : ¬(qgb) p.Rules.l[i]=true:=by
           simp[qgb,grX, *];try omega
         rw[if_neg e];exact hc () _ _ trivial (by simp[gc,Fr.keep,qaf,qab,qae,PV.refs,qag,gcH,qah,Obj.refs,PV.ren,Obj.ren,Heap.obj,Fr.ren,gh,zzd]))
theorem qAz (T:Tab) (hT:HU T) (p:AProduct) (hp:p.ok):T.val 1095 [p.dv]=some (.d (.b (qfb p)),false):=by
  rw[qaZ T (hT 1095 qgP rfl) rfl];have lp0:=fun k fr H => @qDJ T hT p (hp.2.2.2.2.2.2.2.2.2.1).1 (hp.2.2.2.2.2.2.2.2.2.1).2 k (some (.d (.b true),false)) fr H
  have lp1:=fun k fr H => @qHJ T hT p (hp.2.2.2.2.2.2.2.2.2.2).1 (hp.2.2.2.2.2.2.2.2.2.2).2 k (some (.d (.b true),false)) fr H
  obtain⟨q0,hq0⟩ : ∃q,p.Fees.l.any qf9=q:=⟨_,rfl⟩;obtain⟨q1,hq1⟩ : ∃q,p.Rules.l.any qgb=q:=⟨_,rfl⟩;simp only[hq0] at lp0;simp only[hq1] at lp1;have hs:qfb p=(decide (100<p.Name.length)||decide (100<p.Currency.length)||decide (100<p.Calendar.length)||decide (20<p.Credit.Tiers.l.length)||decide (20<p.Debit.Tiers.l.length)||decide (10<p.Fees.l.length)||decide (10<p.Rules.l.length)||q0||q1):=by rw[qfb,hq0,hq1]
  clear hq0 hq1
  simp[qgP,Fr.ofArgs];repeat' first
    | (refine qbr (fun h => ?_) (fun h => ?_)<;>(try simp at h)<;>(try simp[h]))
    |refine (lp0 _ _ _ (by simp[qhW,qhX,qhl]) (by simp[gc,Fr.keep,qaf,qab,qae,PV.refs,qag,gcH,qah,Obj.refs,PV.ren,Obj.ren,Heap.obj,Fr.ren,gh,zzd])).trans ?_
    |refine (lp1 _ _ _ (by simp[qhW,qhX,qhl]) (by simp[gc,Fr.keep,qaf,qab,qae,PV.refs,qag,gcH,qah,Obj.refs,PV.ren,Obj.ren,Heap.obj,Fr.ren,gh,zzd])).trans ?_
  all_goals simp_all
  all_goals omega
theorem qCn (T:Tab) (hT:HU T) (b:ABooks) (hn:b.Products.l.length≤maxLen) (ho : ∀f∈b.Products.l,f.ok) {k:KC (PV×Bool)} {r:Option (PV×Bool)} {fr:Fr} {H:Heap} (hr:qfc 2 k r) (h0:gc [1,3] 0 ⟨fr,H⟩=⟨[(3,(.d (I (0:Int)))),(1,(.p 0 0 0))],[some (.box (K1 22) (.d b.dv))]⟩) :
    kC T.env 0 fr H (.h (.loop [1,3] qlE,k))=brn (b.Products.l.any (qfb)) (.h (r,k (.exit 0) [(55,.d (.b false)),(3,(.d (I (b.Products.l.length:Int)))),(1,(.p 0 0 0))] [some (.box (K1 22) (.d b.dv))])):=by
  have hm:=mxl
  rw[qb7 b.Products.l (fun i _=>⟨[(3,(.d (I (i:Int)))),(1,(.p 0 0 0))],[some (.box (K1 22) (.d b.dv))]⟩) (fun _ _=>True) (fun i _ x c=>if (qfb) x=true then r else c ()) (fun _=>k (.exit 0) [(55,.d (.b false)),(3,(.d (I (b.Products.l.length:Int)))),(1,(.p 0 0 0))] [some (.box (K1 22) (.d b.dv))]) ?_ ?_ h0 trivial]
  · rw[qgY (qfb) r]
    · cases b.Products.l.any (qfb)<;>rfl
    · exact fun _ _ _ _=>rfl
  · intro B _ _ _
    simp[qlE]
  · intro B _ i _ hi _ c hc
    have h1:(i:Int)<b.Products.l.length:=by omega
    have h3:=wr1 (i:=i) (by omega)
    have e1:=qAz T hT b.Products.l[i] (ho _ (zzs hi))
    obtain⟨q,hq⟩ : ∃q,qfb b.Products.l[i]=q:=⟨_,rfl⟩;rw[hq] at e1;simp[qlE,h1,hi,e1];repeat' (refine qbr (fun h => ?_) (fun h => ?_)<;>(try simp at h)<;>(try simp[h3]))
    all_goals first
      | (have e:(qfb) b.Products.l[i]=true:=by
           simp[*];try omega
         rw[if_pos e];exact hr _ _ (by simp[Fr.get]) (by simp[qaF,gh]))
      | (have e : ¬(qfb) b.Products.l[i]=true:=by
           simp[*];try omega
         rw[if_neg e];exact hc () _ _ trivial (by simp[gc,Fr.keep,qaf,qab,qae,PV.refs,qag,gcH,qah,Obj.refs,PV.ren,Obj.ren,Heap.obj,Fr.ren,gh,zzd]))
theorem qEa (T:Tab) (hT:HU T) (b:ABooks) (hn:b.Journal.l.length≤maxLen) (ho : ∀f∈b.Journal.l,f.ok) {k:KC (PV×Bool)} {r:Option (PV×Bool)} {fr:Fr} {H:Heap} (hr:qfc 2 k r) (h0:gc [1,4] 0 ⟨fr,H⟩=⟨[(4,(.d (I (0:Int)))),(1,(.p 0 0 0))],[some (.box (K1 22) (.d b.dv))]⟩) :
    kC T.env 0 fr H (.h (.loop [1,4] qnI,k))=brn (b.Journal.l.any (qfm)) (.h (r,k (.exit 2) [(68,.d (.b false)),(4,(.d (I (b.Journal.l.length:Int)))),(1,(.p 0 0 0))] [some (.box (K1 22) (.d b.dv))])):=by
  have hm:=mxl
  rw[qb7 b.Journal.l (fun i _=>⟨[(4,(.d (I (i:Int)))),(1,(.p 0 0 0))],[some (.box (K1 22) (.d b.dv))]⟩) (fun _ _=>True) (fun i _ x c=>if (qfm) x=true then r else c ()) (fun _=>k (.exit 2) [(68,.d (.b false)),(4,(.d (I (b.Journal.l.length:Int)))),(1,(.p 0 0 0))] [some (.box (K1 22) (.d b.dv))]) ?_ ?_ h0 trivial]
  · rw[qgY (qfm) r]
    · cases b.Journal.l.any (qfm)<;>rfl
    · exact fun _ _ _ _=>rfl
  · intro B _ _ _
    simp[qnI]
  · intro B _ i _ hi _ c hc
    have h1:(i:Int)<b.Journal.l.length:=by omega
    have h3:=wr1 (i:=i) (by omega)
    have e1:=qCO T hT b.Journal.l[i] (ho _ (zzs hi))
    obtain⟨q,hq⟩ : ∃q,qfm b.Journal.l[i]=q:=⟨_,rfl⟩;rw[hq] at e1;simp[qnI,h1,hi,e1];repeat' (refine qbr (fun h => ?_) (fun h => ?_)<;>(try simp at h)<;>(try simp[h3]))
    all_goals first
      | (have e:(qfm) b.Journal.l[i]=true:=by
           simp[*];try omega
         rw[if_pos e];exact hr _ _ (by simp[Fr.get]) (by simp[qaF,gh]))
      | (have e : ¬(qfm) b.Journal.l[i]=true:=by
           simp[*];try omega
         rw[if_neg e];exact hc () _ _ trivial (by simp[gc,Fr.keep,qaf,qab,qae,PV.refs,qag,gcH,qah,Obj.refs,PV.ren,Obj.ren,Heap.obj,Fr.ren,gh,zzd]))
theorem qFY (T:Tab) (b:ABooks) (hn:b.Calendars.l.length≤maxLen) {k:KC (PV×Bool)} {r:Option (PV×Bool)} {fr:Fr} {H:Heap} (hr:qfc 2 k r) (h0:gc [1,5] 0 ⟨fr,H⟩=⟨[(5,(.d (I (0:Int)))),(1,(.p 0 0 0))],[some (.box (K1 22) (.d b.dv))]⟩) :
    kC T.env 0 fr H (.h (.loop [1,5] qnj,k))=brn (b.Calendars.l.any (qf2)) (.h (r,k (.exit 4) [(81,.d (.b false)),(5,(.d (I (b.Calendars.l.length:Int)))),(1,(.p 0 0 0))] [some (.box (K1 22) (.d b.dv))])):=by
  have hm:=mxl
  rw[qb7 b.Calendars.l (fun i _=>⟨[(5,(.d (I (i:Int)))),(1,(.p 0 0 0))],[some (.box (K1 22) (.d b.dv))]⟩) (fun _ _=>True) (fun i _ x c=>if (qf2) x=true then r else c ()) (fun _=>k (.exit 4) [(81,.d (.b false)),(5,(.d (I (b.Calendars.l.length:Int)))),(1,(.p 0 0 0))] [some (.box (K1 22) (.d b.dv))]) ?_ ?_ h0 trivial]
  · rw[qgY (qf2) r]
    · cases b.Calendars.l.any (qf2)<;>rfl
    · exact fun _ _ _ _=>rfl
  · intro B _ _ _
    simp[qnj]
  · intro B _ i _ hi _ c hc
    have h1:(i:Int)<b.Calendars.l.length:=by omega
    have h3:=wr1 (i:=i) (by omega)
    simp[qnj,h1,hi];repeat' (refine qbr (fun h => ?_) (fun h => ?_)<;>(try simp at h)<;>(try simp[h,h1,hi,h3]))
    all_goals first
      | (have e:(qf2) b.Calendars.l[i]=true:=by
           simp[qf2, *];try omega
         rw[if_pos e];exact hr _ _ (by simp[Fr.get]) (by simp[qaF,gh]))
      | (have e : ¬(qf2) b.Calendars.l[i]=true:=by
           simp[qf2, *];try omega
         rw[if_neg e];exact hc () _ _ trivial (by simp[gc,Fr.keep,qaf,qab,qae,PV.refs,qag,gcH,qah,Obj.refs,PV.ren,Obj.ren,Heap.obj,Fr.ren,gh,zzd]))
theorem qFU (T:Tab) (hT:HU T) (b:ABooks) (hb:b.ok):T.val 1090 [b.dv]=some (.d (.b (qhi b)),false):=by
  rw[qaZ T (hT 1090 qgU rfl) rfl];have lp0:=fun k fr H => @qCn T hT b (hb.2.2.2.2.1).1 (hb.2.2.2.2.1).2 k (some (.d (.b true),false)) fr H
  have lp1:=fun k fr H => @qEa T hT b (hb.2.2.2.2.2.2.1).1 (hb.2.2.2.2.2.2.1).2 k (some (.d (.b true),false)) fr H
  have lp2:=fun k fr H => @qFY T b (hb.2.1).1 k (some (.d (.b true),false)) fr H
  have e:=qJn T hT b.Holds.l b.Holds.t (hb.2.2.2.2.2.2.2.1).1
  obtain⟨q0,hq0⟩ : ∃q,b.Products.l.any qfb=q:=⟨_,rfl⟩;obtain⟨q1,hq1⟩ : ∃q,b.Journal.l.any qfm=q:=⟨_,rfl⟩;obtain⟨q2,hq2⟩ : ∃q,b.Calendars.l.any qf2=q:=⟨_,rfl⟩;obtain⟨q3,hq3⟩ : ∃q,qid b.Holds.l=q:=⟨_,rfl⟩;simp only[hq0] at lp0;simp only[hq1] at lp1;simp only[hq2] at lp2;simp only[hq3] at e;have hs:qhi b=(decide (20<b.Currencies.l.length)||decide (10<b.Calendars.l.length)||decide (60<b.Chart.l.length)||decide (20<b.Products.l.length)||decide (40<b.Accounts.l.length)||decide (150<b.Journal.l.length)||q3||decide (100<b.Blocks.l.length)||q0||q1||q2):=by rw[qhi,hq0,hq1,hq2,hq3]
  clear hq0 hq1 hq2 hq3
  simp[qgU,Fr.ofArgs];repeat' first
    | (refine qbr (fun h => ?_) (fun h => ?_)<;>(try simp at h)<;>(try simp[h,e]))
    |refine (lp0 _ _ _ (by simp[qhW,qhX,qhl]) (by simp[gc,Fr.keep,qaf,qab,qae,PV.refs,qag,gcH,qah,Obj.refs,PV.ren,Obj.ren,Heap.obj,Fr.ren,gh,zzd])).trans ?_
    |refine (lp1 _ _ _ (by simp[qhW,qhX,qhl]) (by simp[gc,Fr.keep,qaf,qab,qae,PV.refs,qag,gcH,qah,Obj.refs,PV.ren,Obj.ren,Heap.obj,Fr.ren,gh,zzd])).trans ?_
    |refine (lp2 _ _ _ (by simp[qhW,qhX,qhl]) (by simp[gc,Fr.keep,qaf,qab,qae,PV.refs,qag,gcH,qah,Obj.refs,PV.ren,Obj.ren,Heap.obj,Fr.ren,gh,zzd])).trans ?_
  all_goals simp_all
  all_goals omega
end Go.Sim
end
section
namespace Go.Sim
set_option maxRecDepth 10000
set_option maxHeartbeats 4000000
structure MvY (Y:Nat→List PV→Heap→Option (PV×Heap)) (σ:Type) (HS:σ→Heap) (m o pj pa:Nat) (j:List AEntry) (t:Bool) (acc:Int) (P:σ→Prop) (f:σ→AEntry→ALeg→σ):Prop where
 len : ∀s,(HS s).length=m
 cl : ∀s,Cl (HS s)
 oj : ∀s J,Heap.obj (HS s++J) pj=some (.box K0 (.d (.l (K1 10) (j.map AEntry.dv) t)))
 oa : ∀s J,Heap.obj (HS s++J) pa=some (.box K0 (.d (I acc)))
 lo:o<m∧pj<m∧pa<m
 hp : ∀s e x,P s→e∈j→x∈e.Legs.l→P (f s e x)
 y : ∀s e x,P s→e∈j→x∈e.Legs.l→x.Account=acc→Y o [.d e.dv,.d (I x.Amount)] (HS s++[some (.box (K1 10) (.d e.dv)),some (.box (K1 3) (.d x.dv))])=some (.d (.b true),HS (f s e x)++[some (.box (K1 10) (.d e.dv)),some (.box (K1 3) (.d x.dv))])
def mvL {σ:Type} (acc:Int) (f:σ→AEntry→ALeg→σ) (e:AEntry) (_:Nat) (s:σ) (x:ALeg):σ:=if x.Account=acc then f s e x else s
def mvE {σ:Type} (acc:Int) (f:σ→AEntry→ALeg→σ) (_:Nat) (s:σ) (e:AEntry):σ:=qaT (mvL acc f e) 0 s e.Legs.l
section
variable {Y : Nat → List PV → Heap → Option (PV × Heap)} {σ : Type} {HS : σ → Heap} {m o pj pa : Nat} {j : List AEntry} {t : Bool} {acc : Int} {P : σ → Prop} {f : σ → AEntry → ALeg → σ}
theorem qGk (T:Tab) (h:MvY Y σ HS m o pj pa j t acc P f) (e:AEntry) (he:e∈j) (hn:e.Legs.l.length≤maxLen) (oi:Nat) (s0:σ) (hs0:P s0) {k:KC (PV×Heap)} {fr:Fr} {H:Heap}
  (h0:gc [0,2,5,8,9,10,15,16,17] m ⟨fr,H⟩=⟨[(17,.d (I 0)),(16,.d (I e.Legs.l.length)),(15,.d (.l (K1 3) (e.Legs.l.map ALeg.dv) e.Legs.t)),(10,.d (I oi)),(9,.d (I j.length)),(8,.d (.l (K1 10) (j.map AEntry.dv) t)),(5,.p m 0 0),(2,.p pa 0 0),(0,.h o)],HS s0++[some (.box (K1 10) (.d e.dv))]⟩) :
  kC (T.envY Y) m fr H (.h (.loop [0,2,5,8,9,10,15,16,17] qmK,k))=k (.exit 2) [(18,.d (.b false)),(17,.d (I e.Legs.l.length)),(16,.d (I e.Legs.l.length)),(15,.d (.l (K1 3) (e.Legs.l.map ALeg.dv) e.Legs.t)),(10,.d (I oi)),(9,.d (I j.length)),(8,.d (.l (K1 10) (j.map AEntry.dv) t)),(5,.p m 0 0),(2,.p pa 0 0),(0,.h o)] (HS (qaT (mvL acc f e) 0 s0 e.Legs.l)++[some (.box (K1 10) (.d e.dv))]):=by
 have hm:=mxl
 rw[qb7 e.Legs.l (fun i (s:σ)=>⟨[(17,.d (I i)),(16,.d (I e.Legs.l.length)),(15,.d (.l (K1 3) (e.Legs.l.map ALeg.dv) e.Legs.t)),(10,.d (I oi)),(9,.d (I j.length)),(8,.d (.l (K1 10) (j.map AEntry.dv) t)),(5,.p m 0 0),(2,.p pa 0 0),(0,.h o)],HS s++[some (.box (K1 10) (.d e.dv))]⟩) (fun _ s=>P s) (fun i s x c=>c (mvL acc f e i s x)) (fun s=>k (.exit 2) [(18,.d (.b false)),(17,.d (I e.Legs.l.length)),(16,.d (I e.Legs.l.length)),(15,.d (.l (K1 3) (e.Legs.l.map ALeg.dv) e.Legs.t)),(10,.d (I oi)),(9,.d (I j.length)),(8,.d (.l (K1 10) (j.map AEntry.dv) t)),(5,.p m 0 0),(2,.p pa 0 0),(0,.h o)] (HS s++[some (.box (K1 10) (.d e.dv))])) ?_ ?_ h0 hs0]
 ·rw[qgV (mvL acc f e) _ _ (fun _ _ _ _=>rfl)]
 ·intro B _ s _;simp[qmK]
 ·intro B _ i s hi hs c hc;have h1:(i:Int)<e.Legs.l.length:=by omega
  have h3:=wr1 (i:=i) (by omega)
  have hx:e.Legs.l[i]∈e.Legs.l:=zzs hi
  have hl:=h.len s
  have hoa:=h.oa s
  have ho0 : ∀J,Heap.obj (HS s++J) m=Heap.obj J 0:=fun J=>by rw[←hl];exact qpz _ _
  have ho1 : ∀J,Heap.obj (HS s++J) (m+1)=Heap.obj J 1:=fun J=>by rw[←hl];exact qyO _ _ 1
  have hp1 : ∀J v,Heap.put (HS s++J) (m+1) v=HS s++Heap.put J 1 v:=fun J v=>by rw[←hl];exact qvK _ _ _ 1
  simp[qmK,h1,hi,hl,hoa,ho1,hp1];refine qbr (fun g => ?_) (fun g => ?_)
  ·have g':e.Legs.l[i].Account=acc:=by simpa using g
   have hy:=h.y s e e.Legs.l[i] hs he hx g'
   have hs':=h.hp s e e.Legs.l[i] hs he hx
   have hl':=h.len (f s e e.Legs.l[i])
   simp[g,h3,hl,ho0,ho1,hp1,hy,↓qHM,qFo];have e1:mvL acc f e i s e.Legs.l[i]=f s e e.Legs.l[i]:=by simp[mvL,g']
   rw[e1];refine hc _ _ _ hs' ?_;rw[←hl',qoR _ (h.cl _) rfl (by simp[Fr.keep,qab,gh,PV.refs]) (by simp[Fr.keep,qab,gh,PV.refs,hl'];have:=h.lo;omega) (by simp[Fr.keep,qab,gh,PV.refs,hl'])]
   simp[Fr.keep,gh,hl']
  ·have g' : ¬e.Legs.l[i].Account=acc:=by simpa using g
   simp[g,h3,hl,hp1];have e1:mvL acc f e i s e.Legs.l[i]=s:=by simp[mvL,g']
   rw[e1];refine hc _ _ _ hs ?_;rw[←hl,qoR _ (h.cl _) rfl (by simp[Fr.keep,qab,gh,PV.refs]) (by simp[Fr.keep,qab,gh,PV.refs,hl];have:=h.lo;omega) (by simp[Fr.keep,qab,gh,PV.refs,hl])]
   simp[Fr.keep,gh,hl]
theorem qG4 (h:MvY Y σ HS m o pj pa j t acc P f) {e:AEntry} (he:e∈j) {s:σ} (hs:P s):P (qaT (mvL acc f e) 0 s e.Legs.l):=by
 have key : ∀(l:List ALeg) (i:Nat) (s:σ),P s→(∀x∈l,x∈e.Legs.l)→P (qaT (mvL acc f e) i s l):=by
  intro l;induction l with
  |nil=>intro i s hs _;exact hs
  |cons x l ih =>
   intro i s hs hl;rw[qaT];refine ih _ _ ?_ fun y hy=>hl y (zzi _ hy)
   unfold mvL;split
   ·exact h.hp s e x hs he (hl x (zzr ..))
   ·exact hs
 exact key _ _ _ hs fun _ hx=>hx
theorem qGG (T:Tab) (h:MvY Y σ HS m o pj pa j t acc P f) (hn:j.length≤maxLen) (ho : ∀e∈j,e.Legs.l.length≤maxLen) (s0:σ) (hs0:P s0) {k:KC (PV×Heap)} {fr:Fr} {H:Heap}
  (h0:gc [0,2,8,9,10] m ⟨fr,H⟩=⟨[(10,.d (I 0)),(9,.d (I j.length)),(8,.d (.l (K1 10) (j.map AEntry.dv) t)),(2,.p pa 0 0),(0,.h o)],HS s0⟩) :
  kC (T.envY Y) m fr H (.h (.loop [0,2,8,9,10] qmo,k))=k (.exit 0) [(11,.d (.b false)),(10,.d (I j.length)),(9,.d (I j.length)),(8,.d (.l (K1 10) (j.map AEntry.dv) t)),(2,.p pa 0 0),(0,.h o)] (HS (qaT (mvE acc f) 0 s0 j)):=by
 have hm:=mxl
 rw[qb7 j (fun i (s:σ)=>⟨[(10,.d (I i)),(9,.d (I j.length)),(8,.d (.l (K1 10) (j.map AEntry.dv) t)),(2,.p pa 0 0),(0,.h o)],HS s⟩) (fun _ s=>P s) (fun i s x c=>c (mvE acc f i s x)) (fun s=>k (.exit 0) [(11,.d (.b false)),(10,.d (I j.length)),(9,.d (I j.length)),(8,.d (.l (K1 10) (j.map AEntry.dv) t)),(2,.p pa 0 0),(0,.h o)] (HS s)) ?_ ?_ h0 hs0]
 ·rw[qgV (mvE acc f) _ _ (fun _ _ _ _=>rfl)]
 ·intro B _ s _;simp[qmo]
 ·intro B _ i s hi hs c hc;have h1:(i:Int)<j.length:=by omega
  have h3:=wr1 (i:=i) (by omega)
  have he:j[i]∈j:=zzs hi
  have hl:=h.len s
  have ho0 : ∀J,Heap.obj (HS s++J) m=Heap.obj J 0:=fun J=>by rw[←hl];exact qpz _ _
  have hp0 : ∀J v,Heap.put (HS s++J) m v=HS s++Heap.put J 0 v:=fun J v=>by rw[←hl];exact qDI _ _ _
  have lp:=fun k fr H => @qGk Y σ HS m o pj pa j t acc P f T h j[i] he (ho _ he) i s hs k fr H
  simp[qmo,h1,hi,hl,ho0,hp0];rw[lp]
  ·simp[h3];have hs':=qG4 h he hs
   have hl':=h.len (qaT (mvL acc f j[i]) 0 s j[i].Legs.l)
   refine (hc _ _ _ hs' ?_).trans rfl;rw[←hl',quH _ (h.cl _) (by simp[Fr.keep,qab,gh,PV.refs,hl'];have:=h.lo;omega)]
   simp[Fr.keep,gh]
  ·rw[←hl,qoR _ (h.cl _) rfl (by simp[Fr.keep,qab,gh,PV.refs]) (by simp[Fr.keep,qab,gh,PV.refs,hl];have:=h.lo;omega) (by simp[Fr.keep,qab,gh,PV.refs,hl])]
   simp[Fr.keep,gh,hl]
theorem qJo (T:Tab) (hT:HU T) (h:MvY Y σ HS m o pj pa j t acc P f) (hn:j.length≤maxLen) (ho : ∀e∈j,e.Legs.l.length≤maxLen) (s0:σ) (hs0:P s0) :
  T.it Y 59 [.h o,.p pj 0 0,.p pa 0 0] (HS s0)=some (.t [],HS (qaT (mvE acc f) 0 s0 j)):=by
 rw[qD8 T (hT 59 F59 rfl) Y rfl];have lp:=fun k fr H => @qGG Y σ HS m o pj pa j t acc P f T h hn ho s0 hs0 k fr H
 have hl:=h.len s0
 have hoj:Heap.obj (HS s0) pj=some (.box K0 (.d (.l (K1 10) (j.map AEntry.dv) t))):=by have:=h.oj s0 [];rwa [List.append_nil] at this
 simp[F59,Fr.ofArgs,hl,hoj];rw[lp]
 ·simp[qGc];rw[hl,←h.len (qaT (mvE acc f) 0 s0 j)];exact qql (h.cl _) (by simp[qa1,PV.refs,PV.refsL])
 ·rw[←hl,qqf _ (h.cl _) (by simp[Fr.keep,qab,gh,PV.refs,hl];have:=h.lo;omega)]
  simp[Fr.keep,gh]
end
end Go.Sim
end
section
namespace Go.Sim
set_option maxRecDepth 10000
set_option maxHeartbeats 4000000
theorem qAQ (T:Tab) (hT:HU T) (j:List AEntry) (t:Bool) (acc:Int) (k0:K) (v0:DV):T.ref 50 [.d (.l (K1 10) (j.map AEntry.dv) t),.d (I acc)] [some (.box k0 (.d v0))]=some (.f 59 [.p 1 0 0,.p 2 0 0],[some (.box k0 (.d v0)),some (.box K0 (.d (.l (K1 10) (j.map AEntry.dv) t))),some (.box K0 (.d (I acc)))]):=by
 rw[qic T (hT 50 F50 rfl) rfl];simp[F50,Fr.ofArgs,qhB,gcV,qaf,qae,qah,Obj.refs,PV.refs,PV.refsL,qag,gcH,PV.ren,PV.renL,Obj.ren,Heap.obj,zzd]
def qh1 (j:List AEntry) (t:Bool) (acc:Int) (s:Int):Heap:=[some (.box K0 (.d (I s))),some (.box K0 (.d (.l (K1 10) (j.map AEntry.dv) t))),some (.box K0 (.d (I acc))),some (.lp 0 none),some .df]
def fOf (s:Int) (_:AEntry) (x:ALeg):Int:=w64 (s-x.Amount)
def ofP (j:List AEntry) (acc:Int):Int:=qaT (mvE acc fOf) 0 0 j
theorem qAc (T:Tab) (_hT:HU T) (j:List AEntry) (t:Bool) (acc:Int):MvY (qh9 T.env qpn qrK [(5,.p 0 0 0)] 3 [11,12]) Int (qh1 j t acc) 5 3 1 2 j t acc (fun _=>True) fOf where
 len _:=rfl
 cl _:=by intro r h;simp[qh1,qae,qah,Obj.refs,PV.refs] at h
 oj _ _:=rfl
 oa _ _:=rfl
 lo:=⟨by decide,by decide,by decide⟩
 hp _ _ _ _ _ _:=trivial
 y s e x _ _ _ _:=by
  rw[qB3 rfl rfl];simp[qpn,qrK,qh1,qfV];exact qql (H:=qh1 j t acc (fOf s e x)++[some (.box (K1 10) (.d e.dv)),some (.box (K1 3) (.d x.dv))]) (by intro r h;simp[qh1,qae,qah,Obj.refs,PV.refs] at h) (v:=.d (.b true)) (by simp[PV.refs])
theorem qKM (T:Tab) (hT:HU T) (l:List AEntry) (t:Bool) (acc:Int) (hn:l.length≤maxLen) (ho : ∀e∈l,e.Legs.l.length≤maxLen):T.val 715 [.l (K1 10) (l.map AEntry.dv) t,I acc]=some (.d (I (ofP l acc)),false):=by
 rw[qaZ T (hT 715 qjw rfl) rfl];have e:=qAQ T hT l t acc K0 (I 0)
 have e2:=qJo T hT (qAc T hT l t acc) hn ho 0 trivial
 simp[qjw,Fr.ofArgs,e,↓qBp,↓qz0,qBj,Fr.only];refine (congrArg (fun z=>bo z _) e2).trans ?_
 simp[qm5,qh1,fin,runG];rfl
theorem qlI (a b:Int):w64 (w64 a+b)=w64 (a+b):=by
 unfold w64;rw[IntKind.wrap_i64,IntKind.wrap_i64,IntKind.wrap_i64];omega
theorem qH0 (a b:Int):w64 (a+w64 b)=w64 (a+b):=by rw[Int.add_comm,qlI,Int.add_comm]
theorem qAX (a:Int):w64 (w64 a)=w64 a:=by have:=qlI a 0;simpa using this
theorem qr2 (acc s:Int) : ∀(l:List ALeg) (i:Nat) (d:Int),qaT (qcT acc) i (w64 (s+d)) l=w64 (s+qaT (qcT acc) i (w64 d) l)
 | [],i,d=>by simp only[qaT];rw[qH0]
 |x::l,i,d=>by
  simp only[qaT];by_cases h:(x.Account==acc)=true
  ·have e1:qcT acc i (w64 (s+d)) x=w64 (s+(d-x.Amount)):=by
    simp only[qcT,h,if_true,Int.sub_eq_add_neg,qlI,Int.add_assoc]
   have e2:qcT acc i (w64 d) x=w64 (d-x.Amount):=by
    simp only[qcT,h,if_true,Int.sub_eq_add_neg,qlI]
   rw[e1,e2,qr2 acc s l (i+1)]
  ·have e1:qcT acc i (w64 (s+d)) x=w64 (s+d):=by simp only[qcT,if_neg h]
   have e2:qcT acc i (w64 d) x=w64 d:=by simp only[qcT,if_neg h]
   rw[e1,e2,qr2 acc s l (i+1)]
theorem qyo (acc:Int) (e:AEntry) : ∀(l:List ALeg) (i:Nat) (s:Int),qaT (mvL acc fOf e) i s l=qaT (qcT acc) i s l
 | [],_,_=>rfl
 |x::l,i,s=>by
  have:mvL acc fOf e i s x=qcT acc i s x:=by by_cases h:x.Account=acc<;>simp[mvL,qcT,fOf,h]
  rw[qaT,qaT,this,qyo acc e l]
theorem qvP (acc:Int) : ∀(l:List AEntry) (i:Nat) (n:Int),w64 n=n→qaT (mvE acc fOf) i n l=qaT (qnm acc) i n l
 | [],_,_,_=>rfl
 |e::l,i,n,h=>by
  have e1:mvE acc fOf i n e=qnm acc i n e:=by
   unfold mvE qnm qtq;rw[qyo]
   have:=qr2 acc n e.Legs.l 0 0
   rw[Int.add_zero,h,show w64 0=0 from rfl] at this
   exact this
  rw[qaT,qaT,e1];exact qvP acc l (i+1) _ (qAX _)
theorem qJ7 (l:List AEntry) (acc:Int):ofP l acc=ofR l acc:=qvP acc l 0 0 rfl
end Go.Sim
end
end
section
namespace Go.Sim
theorem qxZ : ∀x:List UInt8,Op.bytesLess x x=false
 | []=>rfl
 |a::x=>by simp[Op.bytesLess,qxZ x]
theorem qv6 : ∀{x y z:List UInt8},Op.bytesLess x y=true→Op.bytesLess y z=true→Op.bytesLess x z=true
 | _,[],_,h,_=>by cases ‹List UInt8› <;> simp[Op.bytesLess] at h
 | _,_::_,[],_,h=>by simp[Op.bytesLess] at h
 | [],_::_,_::_,_,_=>rfl
 |a::x,b::y,c::z,h,k=>by
  simp only[Op.bytesLess,Bool.or_eq_true,zzf,zzq,beq_iff_eq] at h k⊢;rcases h with h|⟨rfl,h⟩
  ·rcases k with k|⟨rfl,k⟩
   ·exact .inl (UInt8.lt_trans h k)
   ·exact .inl h
  ·rcases k with k|⟨rfl,k⟩
   ·exact .inl k
   ·exact .inr ⟨rfl,qv6 h k⟩
theorem qvW : ∀{x y:List UInt8},Op.bytesLess x y=false→Op.bytesLess y x=false→x=y
 | [],[],_,_=>rfl
 | [],_::_,h,_=>by simp[Op.bytesLess] at h
 | _::_,[],_,h=>by simp[Op.bytesLess] at h
 |a::x,b::y,h,k=>by
  simp only[Op.bytesLess,Bool.or_eq_false_iff,Bool.and_eq_false_iff,decide_eq_false_iff_not,beq_eq_false_iff_ne] at h k;have e:a=b:=UInt8.le_antisymm (UInt8.not_lt.1 k.1) (UInt8.not_lt.1 h.1)
  subst e;have h2:=h.2
  have k2:=k.2
  simp only[ne_eq,not_true_eq_false,false_or] at h2 k2;rw[qvW h2 k2]
def ltL (a b:ALeg):Bool:=decide (a.Account<b.Account)||((a.Account==b.Account)&&Op.bytesLess a.Currency b.Currency)
def qqV (a b:ALeg):Prop:=a.Account=b.Account∧a.Currency=b.Currency
theorem qAe {a b:ALeg}:ltL a b=true↔a.Account<b.Account∨(a.Account=b.Account∧Op.bytesLess a.Currency b.Currency=true):=by simp[ltL]
theorem qHU {a b c:ALeg} (h:ltL a b=true) (k:ltL b c=true):ltL a c=true:=by
 rw[qAe] at *
 rcases h with h|⟨h1,h2⟩
 ·rcases k with k|⟨k1,k2⟩<;>exact .inl (by omega)
 ·rcases k with k|⟨k1,k2⟩
  ·exact .inl (by omega)
  ·exact .inr ⟨by omega,qv6 h2 k2⟩
theorem qxC {a b:ALeg} (h:ltL a b=false) (k:ltL b a=false):qqV a b:=by
 simp only[ltL,Bool.or_eq_false_iff,decide_eq_false_iff_not,Bool.and_eq_false_iff,beq_eq_false_iff_ne] at h k;have e:a.Account=b.Account:=by omega
 refine⟨e,qvW ?_ ?_⟩
 ·rcases h.2 with h|h
  ·exact absurd e h
  ·exact h
 ·rcases k.2 with k|k
  ·exact absurd e.symm k
  ·exact k
theorem qDv {a b c:ALeg} (h:qqV a b):ltL c a=ltL c b:=by simp[ltL,h.1,h.2]
def qhx (y x:ALeg):ALeg:=⟨y.Account,w64 (y.Amount+x.Amount),y.Currency⟩
def qch:List ALeg→ALeg→List ALeg
 | [],x=>[x]
 |y::r,x=>if ltL y x=true then y::qch r x else if ltL x y=true then x::y::r else qhx y x::r
abbrev Srt (l:List ALeg):Prop:=l.Pairwise fun a b=>ltL a b=true
theorem qr9 : ∀{l:List ALeg} {x y:ALeg},y∈qch l x→y∈l∨qqV y x
 | [],x,y,h=>by simp[qch] at h;subst h;exact .inr ⟨rfl,rfl⟩
 |z::r,x,y,h=>by
  unfold qch at h;split at h
  ·rcases List.mem_cons.1 h with rfl|h
   ·exact .inl (zzr ..)
   ·rcases qr9 h with h|h
    ·exact .inl (zzi _ h)
    ·exact .inr h
  ·split at h
   ·rcases List.mem_cons.1 h with rfl|h
    ·exact .inr ⟨rfl,rfl⟩
    ·exact .inl h
   ·rename_i h1 h2;rcases List.mem_cons.1 h with rfl|h
    ·have k:=qxC (by simpa using h1) (by simpa using h2)
     exact .inr k
    ·exact .inl (zzi _ h)
theorem qtM : ∀{l:List ALeg} (x:ALeg),Srt l→Srt (qch l x)
 | [],x,_=>by simp[qch,Srt]
 |z::r,x,h=>by
  have h':=List.pairwise_cons.1 h
  unfold qch;split
  ·rename_i hz;refine List.pairwise_cons.2 ⟨fun y hy => ?_,qtM x h'.2⟩
   rcases qr9 hy with hy|hy
   ·exact h'.1 y hy
   ·rw[qDv hy];exact hz
  ·split
   ·rename_i hz;refine List.pairwise_cons.2 ⟨fun y hy => ?_,h⟩
    rcases List.mem_cons.1 hy with rfl|hy
    ·exact hz
    ·exact qHU hz (h'.1 y hy)
   ·exact List.pairwise_cons.2 ⟨fun y hy=>(h'.1 y hy),h'.2⟩
theorem qoJ : ∀(l:List ALeg) (x:ALeg),(qch l x).length≤l.length+1
 | [],x=>by simp[qch]
 |z::r,x=>by
  unfold qch
  have:=qoJ r x
  split
  ·simp;omega
  ·split<;>simp
theorem qFA (l:List ALeg) (x:ALeg):qch l x≠[]:=by
 cases l with
 |nil=>simp[qch]
 |cons z r=>unfold qch;split<;>(try split)<;>simp
def plc (l:List ALeg) (x:ALeg):Nat:=(l.takeWhile fun y=>ltL y x).length
theorem qqj : ∀(l:List ALeg) (x:ALeg),(∀h:plc l x<l.length,ltL x l[plc l x]=true)→qch l x=l.take (plc l x)++x::l.drop (plc l x)
 | [],x,_=>rfl
 |z::r,x,h=>by
  unfold qch;by_cases hz:ltL z x=true
  ·have e:plc (z::r) x=plc r x+1:=by simp[plc,List.takeWhile_cons,hz]
   simp only[e] at h⊢;rw[if_pos hz,qqj r x (fun hk=>by simpa using h (by simpa using hk))]
   rfl
  ·have e:plc (z::r) x=0:=by simp[plc,List.takeWhile_cons,hz]
   simp only[e] at h⊢;rw[if_neg hz,if_pos (by simpa using h (by simp))]
   rfl
theorem qvT : ∀(l:List ALeg) (x:ALeg) (h:plc l x<l.length),ltL x l[plc l x]=false→qch l x=l.set (plc l x) (qhx l[plc l x] x)
 | [],x,h,_=>by simp at h
 |z::r,x,h,hn=>by
  unfold qch;by_cases hz:ltL z x=true
  ·have e:plc (z::r) x=plc r x+1:=by simp[plc,List.takeWhile_cons,hz]
   simp only[e] at h hn⊢;rw[if_pos hz,qvT r x (by simpa using h) (by simpa using hn)]
   simp
  ·have e:plc (z::r) x=0:=by simp[plc,List.takeWhile_cons,hz]
   simp only[e] at h hn⊢;rw[if_neg hz,if_neg (by simpa using hn)]
   simp
theorem qt2 (l:List ALeg) (x:ALeg):plc l x≤l.length:=(List.takeWhile_sublist _).length_le
theorem qxR : ∀(l:List ALeg) (x:ALeg) (j:Nat) (h:j<l.length),j<plc l x→ltL l[j] x=true
 | [],x,j,h,_=>by simp at h
 |z::r,x,j,h,hj=>by
  by_cases hz:ltL z x=true
  ·have e:plc (z::r) x=plc r x+1:=by simp[plc,List.takeWhile_cons,hz]
   cases j with
   |zero=>exact hz
   |succ j=>simp only[List.getElem_cons_succ];exact qxR r x j _ (by omega)
  ·have e:plc (z::r) x=0:=by simp[plc,List.takeWhile_cons,hz]
   omega
theorem qpW : ∀(l:List ALeg) (x:ALeg) (h:plc l x<l.length),ltL l[plc l x] x=false
 | [],x,h=>by simp at h
 |z::r,x,h=>by
  by_cases hz:ltL z x=true
  ·have e:plc (z::r) x=plc r x+1:=by simp[plc,List.takeWhile_cons,hz]
   simp only[e] at h⊢;simp only[List.getElem_cons_succ];exact qpW r x (by simpa using h)
  ·have e:plc (z::r) x=0:=by simp[plc,List.takeWhile_cons,hz]
   simp only[e];simpa using hz
end Go.Sim
end
section
namespace Go.Sim
end Go.Sim
end
section
open Go.Sim
attribute [local simp ↓] qd7 qer qef qeb qet qeP qda qeJ sqK blK lpK qc8 qex qc2 qdL qc3 qe2 qeG qdF qdO qe0 qdi qeB qd1 qeN qdN qeE qep qdE qdT qdd qdU qeV qdj qdm qeX qdX qey qeq qds qdc qej qdy qdt qe4 qee qd6 qeC qeD qea qeH qd4 qdS qcP qem qeh qcU qdQ qe1 qdI qdq qed qdr qek qdC qeM qdK qev qd9 qe5 qdl qeg qeU qd0 qdV qdR qeY qde qdB qd3 qcl qdp qcH qcK qen qdx qeA qdu qeS qeW qeZ qfa qdD qeQ qeL qc7 qdo qdv qez qeT qdn qfg qfD qfu qfH qft qfR qfp qfA qfO qfI qfC qfM qfT qf6
attribute [local simp] qb6 qdW qe8 qdA qd2 qdb qc6 qc4 qdh qdg qc9 rd IOp.adds qak gh nid rgK rdS qdP qeF qec qdJ qdz qdw qdG qeI qdf qe9 qd5 qel qe7 qeR qei qd8 qeK qc1 qe6 qdH qc5 qfi qfj qfs qcs qfo qfe qfl qfL qfB qfN qfG
section
namespace Go.Sim
set_option maxRecDepth 10000
set_option maxHeartbeats 4000000
theorem qrm {R:Type} (a b:List UInt8) {d:DV→Option R}:bo (qaX .lss (.d (.s a)) (.d (.s b))) (.h d)=d (.b (Op.bytesLess a b)):=rfl
end Go.Sim
end
section
namespace Go.Sim
set_option maxRecDepth 10000
set_option maxHeartbeats 4000000
end Go.Sim
end
section
namespace Go.Sim
set_option maxRecDepth 10000
set_option maxHeartbeats 4000000
theorem qm7 (k:IntKind) (n:Int):DV.cells (.i k n)=[.i k n]:=rfl
end Go.Sim
end
section
namespace Go.Sim
set_option maxRecDepth 10000
set_option maxHeartbeats 4000000
def zM (x:ALeg):ALeg:=⟨0,x.Amount,x.Currency⟩
def mdv (x:ALeg):DV:=.a [.s x.Currency,I x.Amount]
def Z0 (g:List ALeg):Prop:=∀y∈g,y.Account=0
theorem qir (x:ALeg):(mdv x).cells=[.s x.Currency,I x.Amount]:=rfl
theorem qyu (x:ALeg):fits (K1 2) (.d (mdv x))=true:=rfl
theorem qBE {g:List ALeg} (x:ALeg) (h:Z0 g):Z0 (qch g (zM x)):=fun y hy=>by
 rcases qr9 hy with h1|h1
 ·exact h y h1
 ·exact h1.1
end Go.Sim
end
section
namespace Go.Sim
set_option maxRecDepth 10000
set_option maxHeartbeats 4000000
theorem qyD (g:List ALeg) (h:g≠[]):qaU (K1 2) (g.map mdv) = .r 0 (K1 2) 0 g.length false:=by
 cases g with
 |nil=>exact absurd rfl h
 |cons a b=>simp[qaU]
theorem qtg (g:List ALeg) (h:g≠[]):qaV (K1 2) (g.map mdv)=[some (.sl (K1 2) 0 (g.map mdv))]:=by
 cases g with
 |nil=>exact absurd rfl h
 |cons a b=>simp[qaV]
def qbq (g:List ALeg) (x:ALeg):List ALeg:=qch g (zM x)
theorem qmL (l:List DV):(PV.d (.a l)).cells=l.map .d:=rfl
theorem qnk (l:List DV):DV.cells (.a l)=l:=rfl
end Go.Sim
end
section
namespace Go.Sim
set_option maxRecDepth 10000
set_option maxHeartbeats 4000000
end Go.Sim
end
section
namespace Go.Sim
set_option maxRecDepth 10000
set_option maxHeartbeats 4000000
section
variable {R : Type} {H : Heap} {id : Nat} {q : PV → Heap → Option R} {k : K} {b : Nat}
theorem qm9 {o off len:Nat} {k':K} {ys:List DV}:bo2 (qcN H id k b (.r o k' off len false) ys) (.h q)=match H.obj o with
  |some (.sl k'' ro es)=>chk ((K.eq k k'&&K.eq k k''&&decide (off+len≤es.length)&&decide ((len+ys.length)*b≤2^47))=true) (.h (chk (ro≤off+len) (.h (q (.r id k 0 (len+ys.length) false) ((H.put o none).put id (some (.sl k (ro-off) ((es.drop off).take len++ys))))))))
  | _=>none:=by
 simp only[qcN,qcn,qaW,qb6,Bool.true_or,if_true,zzg,if_false];cases H.obj o with
 |none=>rfl
 |some w =>
  cases w with
  |sl k'' ro es =>
   simp only[chk];by_cases h:(K.eq k k'&&K.eq k k''&&decide (off+len≤es.length)&&decide ((len+ys.length)*b≤2^47))=true
   ·simp only[h,if_true];by_cases g:ro≤off+len
    ·simp only[g,if_true];rfl
    ·simp only[g,if_false];rfl
   ·simp only[h,if_false,zzg];rfl
  | _=>rfl
end
theorem qCu {α:Type} (m:List α) (x:α) (p n:Nat) (hp:p≤n) (hn:m.length=n):(((m.take p).take p++[x]).take (p+1))++(m.drop p).take (n-p)=m.take p++x::m.drop p:=by
 subst hn;have a:(m.take p++[x]).take (p+1)=m.take p++[x]:=List.take_of_length_le (by simp;omega)
 have b:(m.drop p).take (m.length-p)=m.drop p:=List.take_of_length_le (by simp)
 rw[List.take_take,Nat.min_self,a,b];simp
theorem qHH {α:Type} (m:List α) (x:α) (p n:Nat) (hp:p<n) (hn:m.length=n):(((m.take p).take p++[x]).take (p+1))++(m.drop (p+1)).take (n-(p+1))=m.set p x:=by
 subst hn;have a:(m.take p++[x]).take (p+1)=m.take p++[x]:=List.take_of_length_le (by simp;omega)
 have b:(m.drop (p+1)).take (m.length-(p+1))=m.drop (p+1):=List.take_of_length_le (by simp)
 rw[List.take_take,Nat.min_self,a,b,List.set_eq_take_append_cons_drop,if_pos hp];simp
end Go.Sim
end
section
namespace Go.Sim
set_option maxRecDepth 10000
set_option maxHeartbeats 4000000
theorem qrF {a b:ALeg} (ha:a.Account=0) (hb:b.Account=0):ltL a b=Op.bytesLess a.Currency b.Currency:=by
 simp[ltL,ha,hb]
theorem qHg (T:Tab) (l g:List ALeg) (hz0:Z0 g) (t:Bool) (i:Nat) (hi:i<l.length) (hn:l.length<1000000) (hg:g.length<1000000) {k:KC (PV×Bool)} {r:Option (PV×Bool)} {fr:Fr} {H:Heap}
  (he : ∀b,k (.exit 2) [(30,.d (.b b)),(6,.d (I (plc g (zM l[i])))),(5,.d (.l (K1 2) [] true)),(4,.d (I i)),(3,.r 0 (K1 2) 0 g.length false),(0,.d (.l (K1 3) (l.map ALeg.dv) t))] [some (.sl (K1 2) 0 (g.map mdv))]=r)
  (h0:gc [0,3,4,5,6] 0 ⟨fr,H⟩=⟨[(6,.d (I 0)),(5,.d (.l (K1 2) [] true)),(4,.d (I i)),(3,.r 0 (K1 2) 0 g.length false),(0,.d (.l (K1 3) (l.map ALeg.dv) t))],[some (.sl (K1 2) 0 (g.map mdv))]⟩) :
  kC T.env 0 fr H (.h (.loop [0,3,4,5,6] qi3,k))=r:=by
 have h1:(i:Int)<l.length:=by omega
 refine qIN (fun j:Nat=>⟨[(6,.d (I j)),(5,.d (.l (K1 2) [] true)),(4,.d (I i)),(3,.r 0 (K1 2) 0 g.length false),(0,.d (.l (K1 3) (l.map ALeg.dv) t))],[some (.sl (K1 2) 0 (g.map mdv))]⟩) (fun j=>j) (plc g (zM l[i])) ?_ ?_ (by rw[h0];rfl)
 ·intro B _;by_cases hp:plc g (zM l[i])<g.length
  ·have hat:=qpW g (zM l[i]) hp
   rw[qrF (hz0 _ (zzs _)) rfl] at hat;have ec:(zM l[i]).Currency=l[i].Currency:=rfl
   rw[ec] at hat;generalize plc g (zM l[i])=p at *
   have g1:(p:Int)<g.length:=by omega
   simp[qi3,↓qbn,↓qbt,↓qbf,↓qbK,↓qbc,↓qbD,↓qbe,qbh,↓qbj,↓qbp,↓qb3,↓qbQ,↓qbO,↓qbH,↓qbi,↓qbz,↓qbd,↓qbE,↓qbN,↓qbT,↓qbV,↓qb2,↓qbG,↓qbL,↓qbk,↓qbJ,↓qbs,↓qbU,↓qbA,↓qbY,↓qbZ,↓qbS,↓qb1,↓qb0,↓qbF,↓qbW,↓qbM,↓qbB,↓qbP,↓qbX,↓qbR,↓qby,qa6,writeS,touchS,qat,qaR,chg,qa2,runs,qaP,qa4,PV.refs,PV.refsL,IOp.okD,IOp.barr,qa9,Nat.testBit,hp,g1,hi,h1,↓qg9,↓qib,↓qjh,zzj,qir,↓qrm,hat,he]
  ·have hp' : ¬((plc g (zM l[i]):Int)<g.length):=by omega
   simp[qi3,↓qbn,↓qbt,↓qbf,↓qbK,↓qbc,↓qbD,↓qbe,qbh,↓qbj,↓qbp,↓qb3,↓qbQ,↓qbO,↓qbH,↓qbi,↓qbz,↓qbd,↓qbE,↓qbN,↓qbT,↓qbV,↓qb2,↓qbG,↓qbL,↓qbk,↓qbJ,↓qbs,↓qbU,↓qbA,↓qbY,↓qbZ,↓qbS,↓qb1,↓qb0,↓qbF,↓qbW,↓qbM,↓qbB,↓qbP,↓qbX,↓qbR,↓qby,qa6,writeS,touchS,qat,qaR,chg,qa2,runs,qaP,qa4,PV.refs,PV.refsL,IOp.okD,IOp.barr,qa9,Nat.testBit,hp,hp',hi,h1,↓qg9,↓qib,he]
 ·intro B _ j hj c hc;have hjg:j<g.length:=Nat.lt_of_lt_of_le hj (qt2 _ _)
  have hlt:=qxR g (zM l[i]) j hjg hj
  rw[qrF (hz0 _ (zzs _)) rfl] at hlt;have ec:(zM l[i]).Currency=l[i].Currency:=rfl
  rw[ec] at hlt;have g1:(j:Int)<g.length:=by omega
  have w:IntKind.i64.wrap ((j:Int)+1)=(j:Int)+1:=wrI (by omega) (by omega)
  simp[qi3,↓qbn,↓qbt,↓qbf,↓qbK,↓qbc,↓qbD,↓qbe,qbh,↓qbj,↓qbp,↓qb3,↓qbQ,↓qbO,↓qbH,↓qbi,↓qbz,↓qbd,↓qbE,↓qbN,↓qbT,↓qbV,↓qb2,↓qbG,↓qbL,↓qbk,↓qbJ,↓qbs,↓qbU,↓qbA,↓qbY,↓qbZ,↓qbS,↓qb1,↓qb0,↓qbF,↓qbW,↓qbM,↓qbB,↓qbP,↓qbX,↓qbR,↓qby,qa6,writeS,touchS,qat,qaR,chg,qa2,runs,qaP,qa4,PV.refs,PV.refsL,IOp.okD,IOp.barr,qa9,Nat.testBit,hjg,g1,hi,h1,w,↓qg9,↓qib,↓qjh,zzj,qir,↓qrm,hlt];exact hc _ _ (by simp[gc,Fr.keep,qaf,qab,qae,PV.refs,PV.refsL,qag,gcH,qah,Obj.refs,PV.ren,PV.renL,Obj.ren,Heap.obj,Fr.ren,gh,zzd])
theorem qGf (T:Tab) (l:List ALeg) (t:Bool) (hn:l.length<1000000) (ho : ∀x∈l,w64 x.Amount=x.Amount) {k:KC (PV×Bool)} {fr:Fr} {H:Heap}
  (h0:gc [0,3,4] 0 ⟨fr,H⟩=⟨[(4,.d (I 0)),(3,.d (.l (K1 2) [] true)),(0,.d (.l (K1 3) (l.map ALeg.dv) t))],[]⟩) :
  kC T.env 0 fr H (.h (.loop [0,3,4] qi6,k))=k (.exit 0) [(11,.d (.b false)),(4,.d (I l.length)),(3,qaU (K1 2) ((l.foldl qbq []).map mdv)),(0,.d (.l (K1 3) (l.map ALeg.dv) t))] (qaV (K1 2) ((l.foldl qbq []).map mdv)):=by
 rw[qb7 l (fun i (g:List ALeg)=>⟨[(4,.d (I i)),(3,qaU (K1 2) (g.map mdv)),(0,.d (.l (K1 3) (l.map ALeg.dv) t))],qaV (K1 2) (g.map mdv)⟩) (fun i g=>(Srt g∧Z0 g)∧g.length≤i) (fun _ g x c=>c (qbq g x)) (fun g=>k (.exit 0) [(11,.d (.b false)),(4,.d (I l.length)),(3,qaU (K1 2) (g.map mdv)),(0,.d (.l (K1 3) (l.map ALeg.dv) t))] (qaV (K1 2) (g.map mdv))) ?_ ?_ (b0:=[]) h0 ⟨⟨List.Pairwise.nil,fun _ h=>by cases h⟩,zzt _⟩]
 ·rw[qgV (fun _ g x=>qbq g x) _ _ (fun _ _ _ _=>rfl)]
  have : ∀(l:List ALeg) (i:Nat) (g:List ALeg),qaT (fun _ g x=>qbq g x) i g l=l.foldl qbq g:=by
   intro l;induction l with
   |nil=>intro _ _;rfl
   |cons x l ih=>intro i g;rw[qaT,ih,List.foldl_cons]
  rw[this]
 ·intro B _ g _;cases g with
  |nil=>simp[qi6,qaU,qaV]
  |cons y g=>simp[qi6,qaU,qaV]
 ·intro B _ i g hi hg c hc;have h1:(i:Int)<l.length:=by omega
  have h3:=wr1 (i:=i) (by omega)
  have hg':(Srt (qbq g l[i])∧Z0 (qbq g l[i]))∧(qbq g l[i]).length≤i+1:=⟨⟨qtM _ hg.1.1,qBE _ hg.1.2⟩,Nat.le_trans (qoJ _ _) (by omega)⟩
  have hc':=fun fr H=>hc (qbq g l[i]) fr H hg'
  clear hc
  cases g with
  |nil =>
   have hz:qbq [] l[i]=[zM l[i]]:=rfl
   rw[hz] at hc'⊢;simp[qi6,qaU,qaV,h1,hi,h3];rw[qme];simp[gc,Fr.keep,qaf,qab,qae,PV.refs,PV.refsL,qag,gcH,qah,Obj.refs,PV.ren,PV.renL,Obj.ren,Heap.obj,Fr.ren,gh,zzd];simp[qi3,↓qbn,↓qbt,↓qbf,↓qbK,↓qbc,↓qbD,↓qbe,qbh,↓qbj,↓qbp,↓qb3,↓qbQ,↓qbO,↓qbH,↓qbi,↓qbz,↓qbd,↓qbE,↓qbN,↓qbT,↓qbV,↓qb2,↓qbG,↓qbL,↓qbk,↓qbJ,↓qbs,↓qbU,↓qbA,↓qbY,↓qbZ,↓qbS,↓qb1,↓qb0,↓qbF,↓qbW,↓qbM,↓qbB,↓qbP,↓qbX,↓qbR,↓qby,qa6,writeS,touchS,qat,qaR,chg,qa2,runs,qaP,qa4,PV.refs,PV.refsL,IOp.okD,IOp.barr,qa9,Nat.testBit,h1,hi,h3,↓qCj,↓qm9,qlQ,qlH,qlX,qly,qjF,qkv,qmT,qjC,putAt,mkA,qa0,qf5,List.drop_succ_cons,List.drop_zero,List.take_succ_cons,List.take_zero,List.cons_append,List.nil_append,qmL,qnk,qm7];exact hc' _ _ (by simp[gc,Fr.keep,qaf,qab,qae,PV.refs,PV.refsL,qag,gcH,qah,Obj.refs,PV.ren,PV.renL,Obj.ren,Heap.obj,Fr.ren,gh,zzd,qaU,qaV,mdv,zM])
  |cons y g =>
   obtain⟨gl,hgl⟩ : ∃gl,y::g=gl:=⟨_,rfl⟩;have hne:y::g≠[]:=by simp
   rw[hgl] at hg hg' hc' hne⊢;simp only[qyD _ hne,qtg _ hne];have hne2:qbq gl l[i]≠[]:=qFA gl (zM l[i])
   simp only[qyD _ hne2,qtg _ hne2] at hc';have hlen:gl.length<1000000:=by omega
   have lp:=fun k r he fr H => @qHg T l gl hg.1.2 t i hi hn hlen k r fr H he
   have hpl:=qt2 gl (zM l[i])
   simp[qi6,h1,hi,h3];refine lp _ _ (fun b => ?_) _ _ (by simp[gc,Fr.keep,qaf,qab,qae,PV.refs,PV.refsL,qag,gcH,qah,Obj.refs,PV.ren,PV.renL,Obj.ren,Heap.obj,Fr.ren,gh,zzd])
   have hae : ∀p (h:p<gl.length),gl[p].Account=0:=fun p h=>hg.1.2 _ (zzs _)
   have hwx:=ho l[i] (zzs _)
   obtain⟨x,hx⟩ : ∃x,l[i]=x:=⟨_,rfl⟩;simp only[hx] at hc' hpl hg' hwx⊢;have ht:(gl.map mdv).take gl.length=gl.map mdv:=List.take_of_length_le (by simp)
   by_cases hp:plc gl (zM x)<gl.length
   ·have hat:=qpW gl (zM x) hp
    by_cases hl:ltL (zM x) gl[plc gl (zM x)]=true
    ·have hins:qbq gl x=gl.take (plc gl (zM x))++zM x::gl.drop (plc gl (zM x)):=qqj gl (zM x) (fun _=>hl)
     rw[hins] at hc'⊢;rw[qrF rfl (hae _ hp)] at hl;have hq:(gl[plc gl (zM x)].Currency==x.Currency)=false:=by
      have ec:(zM x).Currency=x.Currency:=rfl
      rw[ec] at hl;have:gl[plc gl (zM x)].Currency≠x.Currency:=fun h=>by rw[h,qxZ] at hl;cases hl
      simpa using this
     generalize plc gl (zM x)=p at *
     have g1:(p:Int)<gl.length:=by omega
     have g2:(p:Int)≤gl.length:=by omega
     have g4:p*24≤140737488355328:=by omega
     have g5:(p+1)*24≤140737488355328:=by omega
     have g6:(p+1+(gl.length-p))*24≤140737488355328:=by omega
     have g7:p+(gl.length-p)=gl.length:=by omega
     have g8:min p gl.length=p:=by omega
     have g9:((gl.map mdv).take p).length=p:=by simp;omega
     simp[↓qbn,↓qbt,↓qbf,↓qbK,↓qbc,↓qbD,↓qbe,qbh,↓qbj,↓qbp,↓qb3,↓qbQ,↓qbO,↓qbH,↓qbi,↓qbz,↓qbd,↓qbE,↓qbN,↓qbT,↓qbV,↓qb2,↓qbG,↓qbL,↓qbk,↓qbJ,↓qbs,↓qbU,↓qbA,↓qbY,↓qbZ,↓qbS,↓qb1,↓qb0,↓qbF,↓qbW,↓qbM,↓qbB,↓qbP,↓qbX,↓qbR,↓qby,qa6,writeS,touchS,qat,qaR,chg,qa2,runs,qaP,qa4,PV.refs,PV.refsL,IOp.okD,IOp.barr,qa9,Nat.testBit,hx,hi,h1,h3,hp,hpl,g1,g2,g4,g5,g6,g7,g8,g9,hq,ht,zzj,qir,↓qg9,↓qib,↓qjh,↓qrj,↓qm9,qlQ,qlH,qlX,qly,qjF,qkv,qmT,qjC,putAt,mkA,qa0,qf5,List.drop_succ_cons,List.drop_zero,List.take_succ_cons,List.take_zero,List.cons_append,List.nil_append,qmL,qnk,qm7];refine hc' _ _ ?_;have hm:DV.a [.s x.Currency,.i .i64 x.Amount]=mdv (zM x):=rfl
     rw[hm,qCu (gl.map mdv) (mdv (zM x)) p gl.length (by omega) (by simp)]
     simp[gc,Fr.keep,qaf,qab,qae,PV.refs,PV.refsL,qag,gcH,qah,Obj.refs,PV.ren,PV.renL,Obj.ren,Heap.obj,Fr.ren,gh,zzd];omega
    ·have hl':ltL (zM x) gl[plc gl (zM x)]=false:=by simpa using hl
     have hins:qbq gl x=gl.set (plc gl (zM x)) (qhx gl[plc gl (zM x)] (zM x)):=qvT gl (zM x) hp hl'
     rw[hins] at hc'⊢;have hk:=qxC hl' hat
     have hq:gl[plc gl (zM x)].Currency=x.Currency:=hk.2.symm
     have hq2:(gl[plc gl (zM x)].Currency==x.Currency)=true:=by simpa using hq
     generalize plc gl (zM x)=p at *
     have g1:(p:Int)<gl.length:=by omega
     have g2:(p:Int)≤gl.length:=by omega
     have g4:p*24≤140737488355328:=by omega
     have g5:(p+1)*24≤140737488355328:=by omega
     have g6:(p+1+(gl.length-(p+1)))*24≤140737488355328:=by omega
     have g7:p+(gl.length-p)=gl.length:=by omega
     have g7':p+1+(gl.length-(p+1))=gl.length:=by omega
     have g8:min p gl.length=p:=by omega
     have g9:((gl.map mdv).take p).length=p:=by simp;omega
     have g10:(p:Int)+1≤gl.length:=by omega
     have g11:(0:Int)≤(p:Int)+1:=by omega
     have g12:((p:Int)+1).toNat=p+1:=by omega
     have g13:gl.length*24≤140737488355328:=by omega
     have w:IntKind.i64.wrap ((p:Int)+1)=(p:Int)+1:=wrI (by omega) (by omega)
     simp[↓qbn,↓qbt,↓qbf,↓qbK,↓qbc,↓qbD,↓qbe,qbh,↓qbj,↓qbp,↓qb3,↓qbQ,↓qbO,↓qbH,↓qbi,↓qbz,↓qbd,↓qbE,↓qbN,↓qbT,↓qbV,↓qb2,↓qbG,↓qbL,↓qbk,↓qbJ,↓qbs,↓qbU,↓qbA,↓qbY,↓qbZ,↓qbS,↓qb1,↓qb0,↓qbF,↓qbW,↓qbM,↓qbB,↓qbP,↓qbX,↓qbR,↓qby,qa6,writeS,touchS,qat,qaR,chg,qa2,runs,qaP,qa4,PV.refs,PV.refsL,IOp.okD,IOp.barr,qa9,Nat.testBit,hx,hi,h1,h3,hp,hpl,g1,g2,g4,g5,g6,g7,g7',g8,g9,g10,g11,g12,g13,w,hq2,ht,zzj,qir,↓qg9,↓qib,↓qjh,↓qrj,↓qm9,qlQ,qlH,qlX,qly,qjF,qkv,qmT,qjC,putAt,mkA,qa0,qf5,List.drop_succ_cons,List.drop_zero,List.take_succ_cons,List.take_zero,List.cons_append,List.nil_append,qmL,qnk,qm7];refine hc' _ _ ?_;have hm:DV.a [.s x.Currency,.i .i64 (IntKind.i64.wrap (x.Amount+gl[p].Amount))]=mdv (qhx gl[p] (zM x)):=by
      show _=DV.a [.s gl[p].Currency,.i .i64 (w64 (gl[p].Amount+x.Amount))]
      rw[hq,w64,Int.add_comm]
     rw[hm,qHH (gl.map mdv) (mdv (qhx gl[p] (zM x))) p gl.length (by omega) (by simp)]
     rw[show (gl.map mdv).set p (mdv (qhx gl[p] (zM x)))=(gl.set p (qhx gl[p] (zM x))).map mdv from List.map_set.symm]
     simp[gc,Fr.keep,qaf,qab,qae,PV.refs,PV.refsL,qag,gcH,qah,Obj.refs,PV.ren,PV.renL,Obj.ren,Heap.obj,Fr.ren,gh,zzd,g7']
   ·have hins:qbq gl x=gl.take (plc gl (zM x))++zM x::gl.drop (plc gl (zM x)):=qqj gl (zM x) (fun h=>absurd h hp)
    rw[hins] at hc'⊢;have hpe:plc gl (zM x)=gl.length:=by omega
    rw[hpe] at hc'⊢;clear hp hpe hpl hins lp hae
    generalize hz:gl.length=n at *
    have g4:n*24≤140737488355328:=by omega
    have g5:(n+1)*24≤140737488355328:=by omega
    have g9:((gl.map mdv).take n).length=n:=by simp;omega
    simp[↓qbn,↓qbt,↓qbf,↓qbK,↓qbc,↓qbD,↓qbe,qbh,↓qbj,↓qbp,↓qb3,↓qbQ,↓qbO,↓qbH,↓qbi,↓qbz,↓qbd,↓qbE,↓qbN,↓qbT,↓qbV,↓qb2,↓qbG,↓qbL,↓qbk,↓qbJ,↓qbs,↓qbU,↓qbA,↓qbY,↓qbZ,↓qbS,↓qb1,↓qb0,↓qbF,↓qbW,↓qbM,↓qbB,↓qbP,↓qbX,↓qbR,↓qby,qa6,writeS,touchS,qat,qaR,chg,qa2,runs,qaP,qa4,PV.refs,PV.refsL,IOp.okD,IOp.barr,qa9,Nat.testBit,hx,hi,h1,h3,hz,g4,g5,g9,ht,↓qg9,↓qib,↓qrj,↓qm9,qlQ,qlH,qlX,qly,qjF,qkv,qmT,qjC,putAt,mkA,qa0,qf5,List.drop_succ_cons,List.drop_zero,List.take_succ_cons,List.take_zero,List.cons_append,List.nil_append,qmL,qnk,qm7];refine hc' _ _ ?_;have hm:DV.a [.s x.Currency,.i .i64 x.Amount]=mdv (zM x):=rfl
    rw[hm,List.take_of_length_le (by simp;omega)]
    have a1:gl.take n=gl:=List.take_of_length_le (by omega)
    have a2:gl.drop n=[]:=List.drop_of_length_le (by omega)
    rw[a1,a2];simp[gc,Fr.keep,qaf,qab,qae,PV.refs,PV.refsL,qag,gcH,qah,Obj.refs,PV.ren,PV.renL,Obj.ren,Heap.obj,Fr.ren,gh,zzd,hz]
theorem qyC (T:Tab) (hP:HP T) (l:List ALeg) (t:Bool) (hn:l.length<1000000) (ho : ∀x∈l,w64 x.Amount=x.Amount):T.val 771 [.l (K1 3) (l.map ALeg.dv) t]=some (.d (.l (K1 2) ((l.foldl qbq []).map mdv) false),true):=by
 rw[qaZ T (hP 771 qiU rfl) rfl];have lp:=fun k fr H => @qGf T l t hn ho k fr H
 simp[qiU,Fr.ofArgs];refine (lp _ _ _ (by simp[gc,Fr.keep,qaf,qab,qae,PV.refs,PV.refsL,qag,gcH,qah,Obj.refs,PV.ren,PV.renL,Obj.ren,Heap.obj,Fr.ren,gh,zzd])).trans ?_
 cases l.foldl qbq [] with
 |nil=>simp[qaU,qaV]
 |cons x g =>
  have ht:(g.map mdv).take g.length=g.map mdv:=List.take_of_length_le (by simp)
  simp[qaU,qaV,ht]
end Go.Sim
end
section
namespace Go.Sim
set_option maxRecDepth 10000
set_option maxHeartbeats 8000000
def qwf (x:ALeg):Bool:=decide (x.Account<1)||(decide (x.Amount=0)||(decide (x.Amount < -1000000000000)||decide (1000000000000<x.Amount)))
def qeu (x:ALeg):Int:=if qwf x=true then 1 else if qoz x.Currency=true then 0 else 14
def qe3:List ALeg→Int
 | []=>0
 |x::l=>if qeu x=0 then qe3 l else qeu x
def qlF (g:List ALeg):Bool:=g.all fun x=>x.Amount==0
def qkh (e:AEntry):Int:=if qmD e.Key=true then (if (qhp e.Text 32 64&&(qgB e.Booked&&(qgB e.Value&&(qgB e.Period&&(!decide (e.Kind<1)&&(!decide (14<e.Kind)&&(!decide (e.Auth<0) && !decide (3<e.Auth))))))))=true then (if e.Legs.l.length<2∨12<e.Legs.l.length then 5 else if qe3 e.Legs.l=0 then (if qlF (e.Legs.l.foldl qbq [])=true then 0 else 15) else qe3 e.Legs.l) else 1) else 4
theorem qJX (T:Tab) (hP:HP T) (x:ALeg) (hx:x.Currency.length≤maxLen):T.val 770 [x.dv]=some (.d (I (qeu x)),false):=by
 rw[qaZ T (hP 770 qja rfl) rfl];have e:=qGC T hP x.Currency hx
 unfold qeu qwf;simp[qja,Fr.ofArgs,e];repeat' (refine qbr (fun h => ?_) (fun h => ?_)<;>(try simp at h)<;>(try simp[h,e]))
 all_goals first|omega|simp_all
theorem qu0 {R:Type} (r:Int→Option R) (done:Unit→Option R) (step:Nat→Unit→ALeg→(Unit→Option R)→Option R) (hs : ∀i b x c,step i b x c=if qeu x=0 then c () else r (qeu x)) : ∀(i:Nat) (ls:List ALeg),rounds step done i () ls=if qe3 ls=0 then done () else r (qe3 ls)
 |i,[]=>by simp[rounds,qe3]
 |i,x::l=>by
  rw[rounds,hs,qu0 r done step hs (i+1) l,qe3];by_cases h:qeu x=0
  ·simp[h]
  ·simp[h]
theorem qvf (T:Tab) (hP:HP T) (e:AEntry) (hn:e.Legs.l.length≤maxLen) (ho : ∀x∈e.Legs.l,x.ok) {k:KC (PV×Bool)} {r:Int→Option (PV×Bool)} {fr:Fr} {H:Heap} (hr : ∀fr H n,fr.get 2 = .d (I n)→qaF fr=[]→k .ret fr H=r n)
  (h0:gc [1,3] 0 ⟨fr,H⟩=⟨[(3,.d (I 0)),(1,.p 0 0 0)],[some (.box (K1 10) (.d e.dv))]⟩) :
  kC T.env 0 fr H (.h (.loop [1,3] qjW,k))=if qe3 e.Legs.l=0 then k (.exit 0) [(72,.d (.b false)),(3,.d (I e.Legs.l.length)),(1,.p 0 0 0)] [some (.box (K1 10) (.d e.dv))] else r (qe3 e.Legs.l):=by
 have hm:=mxl
 rw[qb7 e.Legs.l (fun i _=>⟨[(3,.d (I i)),(1,.p 0 0 0)],[some (.box (K1 10) (.d e.dv))]⟩) (fun _ _=>True) (fun i _ x c=>if qeu x=0 then c () else r (qeu x)) (fun _=>k (.exit 0) [(72,.d (.b false)),(3,.d (I e.Legs.l.length)),(1,.p 0 0 0)] [some (.box (K1 10) (.d e.dv))]) ?_ ?_ h0 trivial]
 ·exact qu0 r _ _ (fun _ _ _ _=>rfl) 0 _
 ·intro B _ _ _;simp[qjW]
 ·intro B _ i _ hi _ c hc;have h1:(i:Int)<e.Legs.l.length:=by omega
  have h3:=wr1 (i:=i) (by omega)
  have ev:=qJX T hP e.Legs.l[i] (ho _ (zzs _)).2.2
  by_cases hz:qeu e.Legs.l[i]=0
  ·rw[if_pos hz];rw[hz] at ev;simp[qjW,h1,hi,h3,ev,bne];exact hc () _ _ trivial (by simp[gc,Fr.keep,qaf,qab,qae,PV.refs,PV.refsL,qag,gcH,qah,Obj.refs,PV.ren,PV.renL,Obj.ren,Heap.obj,Fr.ren,gh,zzd])
  ·rw[if_neg hz];have hz':(qeu e.Legs.l[i]==0)=false:=by simpa using hz
   simp[qjW,h1,hi,h3,ev,hz,hz',bne];exact hr _ _ _ (by simp[Fr.get]) (by simp[qaF,gh])
theorem qyY (T:Tab) (g:List ALeg) (hn:g.length≤100) {k:KC (PV×Bool)} {r:Option (PV×Bool)} {fr:Fr} {H:Heap} (hr : ∀fr H,fr.get 2 = .d (I 15)→qaF fr=[]→k .ret fr H=r)
  (h0:gc [5,6] 0 ⟨fr,H⟩=⟨[(6,.d (I 0)),(5,.d (.l (K1 2) (g.map mdv) false))],[]⟩) :
  kC T.env 0 fr H (.h (.loop [5,6] qle,k))=if qlF g=true then k (.exit 2) [(90,.d (.b false)),(6,.d (I g.length)),(5,.d (.l (K1 2) (g.map mdv) false))] [] else r:=by
 rw[qb7 g (fun i _=>⟨[(6,.d (I i)),(5,.d (.l (K1 2) (g.map mdv) false))],[]⟩) (fun _ _=>True) (fun i _ x c=>if (fun x:ALeg=>x.Amount==0) x=true then c () else r) (fun _=>k (.exit 2) [(90,.d (.b false)),(6,.d (I g.length)),(5,.d (.l (K1 2) (g.map mdv) false))] []) ?_ ?_ h0 trivial]
 ·rw[qlV (fun x:ALeg=>x.Amount==0) r]
  ·rfl
  ·exact fun _ _ _ _=>rfl
 ·intro B _ _ _;simp[qle]
 ·intro B _ i _ hi _ c hc;have h1:(i:Int)<g.length:=by omega
  have h3:=wr1 (i:=i) (by omega)
  by_cases hz:g[i].Amount=0
  ·simp[qle,h1,hi,h3,hz,qyu,qir,zzj,bne];exact hc () _ _ trivial (by simp[gc,Fr.keep,qaf,qab,qae,PV.refs,PV.refsL,qag,gcH,qah,Obj.refs,PV.ren,PV.renL,Obj.ren,Heap.obj,Fr.ren,gh,zzd])
  ·have hz':(g[i].Amount==0)=false:=by simpa using hz
   simp[qle,h1,hi,h3,hz,hz',qyu,qir,zzj,bne];exact hr _ _ (by simp[Fr.get]) (by simp[qaF,gh])
end Go.Sim
end
section
namespace Go.Sim
set_option maxRecDepth 10000
set_option maxHeartbeats 8000000
theorem qu4 {n:Int} (h:inK .i64 n):w64 n=n:=by
 simp only[inK,Lit.wf,IntKind.min,IntKind.max,IntKind.signed,IntKind.bits,zzf,zzq,if_true] at h;exact wrI (by omega) (by omega)
theorem qqr : ∀(l g:List ALeg),(l.foldl qbq g).length≤g.length+l.length
 | [],g=>by simp
 |x::l,g=>by
  have:=qqr l (qbq g x)
  have h2:=qoJ g (zM x)
  rw[List.foldl_cons];have h3:(qbq g x).length≤g.length+1:=h2
  simp;omega
theorem qCX (T:Tab) (hP:HP T) (e:AEntry) (he:e.ok):T.val 679 [e.dv]=some (.d (I (qkh e)),false):=by
 rw[qaZ T (hP 679 qcf rfl) rfl];have e1:=qIH T hP e.Key he.2.2.2.2.2.2.1
 have e2:T.val 685 [.s e.Text,I 64,.i .u8 32]=some (.d (.b (qhp e.Text 32 64)),false):=qtw T hP e.Text 32 64 he.2.2.2.2.2.2.2.1
 have e3:=qoA T hP e.Booked
 have e4:=qoA T hP e.Value
 have e5:=qoA T hP e.Period
 unfold qkh;cases hk:qmD e.Key with
 |false=>rw[hk] at e1;simp[qcf,Fr.ofArgs,e1]
 |true =>
  rw[hk] at e1;cases ht:qhp e.Text 32 64 with
  |false=>rw[ht] at e2;simp[qcf,Fr.ofArgs,e1,e2,ht,bne]
  |true =>
   rw[ht] at e2;cases hb:qgB e.Booked with
   |false=>rw[hb] at e3;simp[qcf,Fr.ofArgs,e1,e2,ht,e3,hb,bne]
   |true =>
    rw[hb] at e3;cases hv:qgB e.Value with
    |false=>rw[hv] at e4;simp[qcf,Fr.ofArgs,e1,e2,ht,e3,hb,e4,hv,bne]
    |true =>
     rw[hv] at e4;by_cases k1:e.Kind<1
     ·simp[qcf,Fr.ofArgs,e1,e2,ht,e3,hb,e4,hv,k1]
     ·have k1':decide (e.Kind<1)=false:=by simpa using k1
      by_cases k2:14<e.Kind
      ·simp[qcf,Fr.ofArgs,e1,e2,ht,e3,hb,e4,hv,k1,k2]
      ·have k2':decide (14<e.Kind)=false:=by simpa using k2
       by_cases a1:e.Auth<0
       ·simp[qcf,Fr.ofArgs,e1,e2,ht,e3,hb,e4,hv,k1,k2,a1]
       ·have a1':decide (e.Auth<0)=false:=by simpa using a1
        by_cases a2:3<e.Auth
        ·simp[qcf,Fr.ofArgs,e1,e2,ht,e3,hb,e4,hv,k1,k2,a1,a2]
        ·have a2':decide (3<e.Auth)=false:=by simpa using a2
         by_cases hz:e.Period=0
         ·have hp0:qgB 0=true:=rfl
          by_cases n1:e.Legs.l.length<2
          ·have n1':(e.Legs.l.length:Int)<2:=by omega
           simp[qcf,Fr.ofArgs,e1,e2,ht,e3,hb,e4,hv,k1,k2,a1,a2,hz,hp0,n1,n1',bne]
          ·have n1' : ¬(e.Legs.l.length:Int)<2:=by omega
           by_cases n2:12<e.Legs.l.length
           ·have n2':(12:Int)<e.Legs.l.length:=by omega
            simp[qcf,Fr.ofArgs,e1,e2,ht,e3,hb,e4,hv,k1,k2,a1,a2,hz,hp0,n1,n1',n2,n2',bne]
           ·have n2' : ¬(12:Int)<e.Legs.l.length:=by omega
            have e6:=qyC T hP e.Legs.l e.Legs.t (by omega) (fun x hx=>qu4 (he.2.2.2.2.2.2.2.2.1.2 x hx).2.1)
            have hl:=qqr e.Legs.l []
            simp only[List.length_nil] at hl;simp[qcf,Fr.ofArgs,e1,e2,ht,e3,hb,e4,hv,k1,k2,a1,a2,hz,hp0,n1,n1',n2,n2',bne];refine (qvf T hP e (by have:=he.2.2.2.2.2.2.2.2.1.1;exact this) he.2.2.2.2.2.2.2.2.1.2 (r:=fun n=>some (.d (I n),false)) (fun fr H n h hg=>by simp[h,hg,qcl]) (by simp[gc,Fr.keep,qaf,qab,qae,PV.refs,PV.refsL,qag,gcH,qah,Obj.refs,PV.ren,PV.renL,Obj.ren,Heap.obj,Fr.ren,gh,zzd])).trans ?_
            by_cases g1:qe3 e.Legs.l=0
            ·rw[if_pos g1];have lp:=fun k fr H r hr h0 => @qyY T (e.Legs.l.foldl qbq []) (by omega) k r fr H hr h0
             simp[e6,g1];rw[lp _ _ _ (some (.d (I 15),false)) (fun fr H h hg=>by simp[h,hg,qcl]) (by simp[gc,Fr.keep,qaf,qab,qae,PV.refs,PV.refsL,qag,gcH,qah,Obj.refs,PV.ren,PV.renL,Obj.ren,Heap.obj,Fr.ren,gh,zzd])]
             cases qlF (e.Legs.l.foldl qbq []) with
             |true=>simp
             |false=>simp
            ·rw[if_neg g1];simp[g1]
         have hz':(e.Period==0)=false:=by simpa using hz
         cases hp:qgB e.Period with
         |false=>rw[hp] at e5;simp[qcf,Fr.ofArgs,e1,e2,ht,e3,hb,e4,hv,k1,k2,a1,a2,e5,hz',hp,bne]
         |true =>
          rw[hp] at e5;by_cases n1:e.Legs.l.length<2
          ·have n1':(e.Legs.l.length:Int)<2:=by omega
           simp[qcf,Fr.ofArgs,e1,e2,ht,e3,hb,e4,hv,k1,k2,a1,a2,e5,hz',hp,n1,n1',bne]
          ·have n1' : ¬(e.Legs.l.length:Int)<2:=by omega
           by_cases n2:12<e.Legs.l.length
           ·have n2':(12:Int)<e.Legs.l.length:=by omega
            simp[qcf,Fr.ofArgs,e1,e2,ht,e3,hb,e4,hv,k1,k2,a1,a2,e5,hz',hp,n1,n1',n2,n2',bne]
           ·have n2' : ¬(12:Int)<e.Legs.l.length:=by omega
            have e6:=qyC T hP e.Legs.l e.Legs.t (by omega) (fun x hx=>qu4 (he.2.2.2.2.2.2.2.2.1.2 x hx).2.1)
            have hl:=qqr e.Legs.l []
            simp only[List.length_nil] at hl;simp[qcf,Fr.ofArgs,e1,e2,ht,e3,hb,e4,hv,k1,k2,a1,a2,e5,hz',hp,n1,n1',n2,n2',bne];refine (qvf T hP e (by have:=he.2.2.2.2.2.2.2.2.1.1;exact this) he.2.2.2.2.2.2.2.2.1.2 (r:=fun n=>some (.d (I n),false)) (fun fr H n h hg=>by simp[h,hg,qcl]) (by simp[gc,Fr.keep,qaf,qab,qae,PV.refs,PV.refsL,qag,gcH,qah,Obj.refs,PV.ren,PV.renL,Obj.ren,Heap.obj,Fr.ren,gh,zzd])).trans ?_
            by_cases g1:qe3 e.Legs.l=0
            ·rw[if_pos g1];have lp:=fun k fr H r hr h0 => @qyY T (e.Legs.l.foldl qbq []) (by omega) k r fr H hr h0
             simp[e6,g1];rw[lp _ _ _ (some (.d (I 15),false)) (fun fr H h hg=>by simp[h,hg,qcl]) (by simp[gc,Fr.keep,qaf,qab,qae,PV.refs,PV.refsL,qag,gcH,qah,Obj.refs,PV.ren,PV.renL,Obj.ren,Heap.obj,Fr.ren,gh,zzd])]
             cases qlF (e.Legs.l.foldl qbq []) with
             |true=>simp
             |false=>simp
            ·rw[if_neg g1];simp[g1]
end Go.Sim
end
end
section
namespace Go.Sim
set_option maxRecDepth 10000
theorem qmC {α:Type} {f:α→DV} {P:α→Prop} : ∀{es:List DV},(∀e∈es,∃x,e=f x∧P x)→∃l:List α,es=l.map f∧∀y∈l,P y
 | [],_=>⟨[],rfl,fun y hy=>by cases hy⟩
 |e::es,h=>by
  obtain⟨x,hx,px⟩:=h e (zzr ..);obtain⟨l,hl,pl⟩:=qmC fun e' he=>h e' (zzi _ he)
  refine⟨x::l,by rw[hx,hl];rfl,fun y hy => ?_⟩
  rcases List.mem_cons.1 hy with rfl|hy
  ·exact px
  ·exact pl y hy
theorem qG9 {d:Nat} {cs:List DV} {e:DV} (he:mkD (K1 3) cs=some e) (h:HsL d qtr cs) : ∃x:ALeg,e=x.dv∧x.ok:=by
 obtain⟨w1,r1,rfl,⟨a,rfl,h1⟩,c2⟩:=qaY h;obtain⟨w2,r2,rfl,⟨b,rfl,h2⟩,c3⟩:=qaY c2;obtain⟨w3,r3,rfl,⟨s,rfl,h3⟩,c4⟩:=qaY c3;obtain rfl:=qcv c4;exact⟨⟨a,b,s⟩,(Option.some.inj he).symm,h1,h2,h3⟩
theorem qAG {d:Nat} {x:DV} (h:HsK d (K1 10,qjV) x) : ∃e:AEntry,x=e.dv∧e.ok:=by
 obtain⟨cs,c1,c2⟩:=h;obtain⟨w1,r1,rfl,⟨a1,rfl,h1⟩,d1⟩:=qaY c2;obtain⟨w2,r2,rfl,⟨a2,rfl,h2⟩,d2⟩:=qaY d1;obtain⟨w3,r3,rfl,⟨a3,rfl,h3⟩,d3⟩:=qaY d2;obtain⟨w4,r4,rfl,⟨a4,rfl,h4⟩,d4⟩:=qaY d3;obtain⟨w5,r5,rfl,⟨a5,rfl,h5⟩,d5⟩:=qaY d4;obtain⟨w6,r6,rfl,⟨a6,rfl,h6⟩,d6⟩:=qaY d5;obtain⟨w7,r7,rfl,⟨a7,rfl,h7⟩,d7⟩:=qaY d6;obtain⟨w8,r8,rfl,⟨a8,rfl,h8⟩,d8⟩:=qaY d7;obtain⟨w9,r9,rfl,⟨es,t,rfl,h9,_,h9b⟩,d9⟩:=qaY d8;obtain⟨w10,r10,rfl,⟨a10,rfl,h10⟩,d10⟩:=qaY d9;obtain rfl:=qcv d10;obtain⟨l,rfl,hl⟩:=qmC (f:=ALeg.dv) (P:=ALeg.ok) (es:=es) fun e he=>by
  obtain⟨cs,q1,q2⟩:=h9b e he;exact qG9 q1 q2
 refine⟨⟨a1,a2,a3,a4,a5,a6,a7,a8,⟨l,t⟩,a10⟩,(Option.some.inj c1).symm,h1,h2,h3,h4,h5,h6,h7,h8,⟨?_,hl⟩,h10⟩;simpa using h9
theorem qGQ (x:ALeg):(Lit.int .i64 (qeu x)).wf=true:=by unfold qeu;split<;>(try split)<;>decide
theorem qzo : ∀l:List ALeg,(Lit.int .i64 (qe3 l)).wf=true
 | []=>by decide
 |x::l=>by
  unfold qe3;split
  ·exact qzo l
  ·exact qGQ x
theorem qGh (e:AEntry):(Lit.int .i64 (qkh e)).wf=true:=by
 unfold qkh;split
 ·split
  ·split
   ·decide
   ·split
    ·split<;>decide
    ·exact qzo _
  ·decide
 ·decide
theorem qDo (T:Tab) (hP:HP T):qaj T 679 qpu:=by
 intro d ds hd;cases ds with
 |nil=>exact hd.elim
 |cons x ds =>
  cases ds with
  |cons=>exact hd.2.elim
  |nil =>
   obtain⟨e,rfl,he⟩:=qAG hd.1;exact⟨[I (qkh e)],false,qCX T hP e he,qfK (qGh e),trivial⟩
end Go.Sim
end
section
open Go.Sim
attribute [local simp ↓] qd7 qer qef qeb qet qeP qda qeJ sqK blK lpK qc8 qex qc2 qdL qc3 qe2 qeG qdF qdO qe0 qdi qeB qd1 qeN qdN qeE qep qdE qdT qdd qdU qeV qdj qdm qeX qdX qey qeq qds qdc qej qdy qdt qe4 qee qd6 qeC qeD qea qeH qd4 qdS qcP qem qeh qcU qdQ qe1 qdI qdq qed qdr qek qdC qeM qdK qev qd9 qe5 qdl qeg qeU qd0 qdV qdR qeY qde qdB qd3 qcl qdp qcH qcK qen qdx qeA qdu qeS qeW qeZ qfa qdD qeQ qeL qc7 qdo qdv qez qeT qdn qfg qfD qfu qfH qft qfR qfp qfA qfO qfI qfC qfM qfT qf6
attribute [local simp] qb6 qdW qe8 qdA qd2 qdb qc6 qc4 qdh qdg qc9 rd IOp.adds qak gh nid rgK rdS qdP qeF qec qdJ qdz qdw qdG qeI qdf qe9 qd5 qel qe7 qeR qei qd8 qeK qc1 qe6 qdH qc5 qfi qfj qfs qcs qfo qfe qfl qfL qfB qfN qfG
section
namespace Go.Sim
set_option maxRecDepth 10000
set_option maxHeartbeats 4000000
theorem qGd {d:Nat} {cs:List DV} {e:DV} (he:mkD (K1 4) cs=some e) (h:HsL d tGl cs) : ∃x:AGl,e=x.dv∧x.ok:=by
 obtain⟨w1,r1,rfl,⟨a,rfl,h1⟩,c2⟩:=qaY h;obtain⟨w2,r2,rfl,⟨b,rfl,h2⟩,c3⟩:=qaY c2;obtain⟨w3,r3,rfl,⟨c,rfl,h3⟩,c4⟩:=qaY c3;obtain⟨w4,r4,rfl,⟨s,rfl,h4⟩,c5⟩:=qaY c4;obtain rfl:=qcv c5;exact⟨⟨a,b,c,s⟩,(Option.some.inj he).symm,h1,h2,h3,h4⟩
theorem qKA {d:Nat} {es:List DV} {t:Bool} (h:HsK d (K0,[.l (K1 4) 3518437208883 tGl]) (.l (K1 4) es t)) : ∃l:List AGl,es=l.map AGl.dv∧∀y∈l,y.ok:=by
 obtain⟨cs,q1,q2⟩:=h;obtain⟨w,r,rfl,⟨es',t',e,h3,h4,h5⟩,d3⟩:=qaY q2;obtain rfl:=qcv d3;have e1:w = .l (K1 4) es t:=Option.some.inj q1
 rw[e1] at e;cases e;exact qmC fun e he=>by
  obtain⟨cs,q1,q2⟩:=h5 e he;exact qGd q1 q2
theorem qAg (T:Tab) (hS:HS T):qaj T 1102 qvO:=qau (hS 1102 qki rfl) qzS fun _=>qal (qzk T hS) (qar)
abbrev AW (l:List DV):Prop:=∀x∈l,∃n,x=I n∧(Lit.int .i64 n).wf=true
theorem qus (T:Tab) {Q:PV×Bool→Prop} (gl:List AGl) (t:Bool) (root:Int) (i:Nat) (hi:i<gl.length) (hgl:gl.length≤3518437208883) (L:List DV) (hL:AW L) (hl:L.length≤3518437208883) {k:KC (PV×Bool)} {fr:Fr} {H:Heap} (j0:Nat) (hj0:j0≤L.length)
  (hk : ∀j:Nat,j≤L.length→Anx Q (k (.exit 2) [(49,.d (.b false)),(7,.d (I j)),(6,.d (I i)),(5,qaU K0 L),(1,.d (I root)),(0,.d (.l (K1 4) (gl.map AGl.dv) t))] (qaV K0 L)))
  (h0:gc [0,1,5,6,7] 0 ⟨fr,H⟩=⟨[(7,.d (I j0)),(6,.d (I i)),(5,qaU K0 L),(1,.d (I root)),(0,.d (.l (K1 4) (gl.map AGl.dv) t))],qaV K0 L⟩) :
  Anx Q (kC T.env 0 fr H (.h (.loop [0,1,5,6,7] qns,k))):=by
 refine qfq (fun j:Nat=>⟨[(7,.d (I j)),(6,.d (I i)),(5,qaU K0 L),(1,.d (I root)),(0,.d (.l (K1 4) (gl.map AGl.dv) t))],qaV K0 L⟩) (fun j=>j≤L.length) id ?_ j0 hj0 h0
 rintro B-j hj hx;have hkj:=hk j hj
 cases j with
 |zero =>
  simp only[Int.ofNat_zero] at hkj;simp[qns,↓qbn,↓qbt,↓qbf,↓qbK,↓qbc,↓qbD,↓qbe,qbh,↓qbj,↓qbp,↓qb3,↓qbQ,↓qbO,↓qbH,↓qbi,↓qbz,↓qbd,↓qbE,↓qbN,↓qbT,↓qbV,↓qb2,↓qbG,↓qbL,↓qbk,↓qbJ,↓qbs,↓qbU,↓qbA,↓qbY,↓qbZ,↓qbS,↓qb1,↓qb0,↓qbF,↓qbW,↓qbM,↓qbB,↓qbP,↓qbX,↓qbR,↓qby,qa6,writeS,touchS,qat,qaR,chg,qa2,runs,qaP,qa4,PV.refs,PV.refsL,IOp.okD,IOp.barr,qa9,Nat.testBit];exact hkj
 |succ j =>
  have hov:qaU K0 L = .r 0 K0 0 L.length false:=by cases L with|nil=>simp at hj|cons x r=>rfl
  have hoo:qaV K0 L=[some (.sl K0 0 L)]:=by cases L with|nil=>simp at hj|cons x r=>rfl
  have hx':=hx j (by omega) (by show j<j+1;omega)
  simp only[hov,hoo] at hkj hx'⊢;obtain⟨n,hn,hnw⟩:=hL L[j] (zzs (by omega))
  have hn':L[j]? = some (I n):=by rw[zze (by omega),hn]
  have sd : ∀v,qco K0 v 0 K0=some v:=fun v=>rfl
  have c1:((j+1:Nat):Int)=(j:Int)+1:=by omega
  have g1:(0:Int)<(j:Int)+1:=by omega
  have g2:IntKind.i64.wrap ((j:Int)+1-1)=j:=by rw[show (j:Int)+1-1=j by omega];exact wrI (by omega) (by omega)
  have g6:IntKind.i64.wrap (j:Int)=j:=wrI (by omega) (by omega)
  have g3:(j:Int)<L.length:=by omega
  have g4:(i:Int)<gl.length:=by omega
  have g5:j<L.length:=by omega
  rw[c1] at hkj⊢;simp[qns,↓qbn,↓qbt,↓qbf,↓qbK,↓qbc,↓qbD,↓qbe,qbh,↓qbj,↓qbp,↓qb3,↓qbQ,↓qbO,↓qbH,↓qbi,↓qbz,↓qbd,↓qbE,↓qbN,↓qbT,↓qbV,↓qb2,↓qbG,↓qbL,↓qbk,↓qbJ,↓qbs,↓qbU,↓qbA,↓qbY,↓qbZ,↓qbS,↓qb1,↓qb0,↓qbF,↓qbW,↓qbM,↓qbB,↓qbP,↓qbX,↓qbR,↓qby,qa6,writeS,touchS,qat,qaR,chg,qa2,runs,qaP,qa4,PV.refs,PV.refsL,IOp.okD,IOp.barr,qa9,Nat.testBit,g1,g2,g6,g3,g4,g5,↓qg9,hi,hn,sd,zzj];refine qf3 (fun h => ?_) (fun h => ?_)
  ·simp[g6];exact hx' _ _ (by simp[gc,Fr.keep,qaf,qab,qae,PV.refs,PV.refsL,qag,gcH,qah,Obj.refs,PV.ren,PV.renL,Obj.ren,Heap.obj,Fr.ren,gh,zzd])
  ·exact hkj
section
variable {R : Type} {H : Heap} {id : Nat} {k : K} {b : Nat} {q : PV → Heap → Option R}
theorem qiF {o off len:Nat} {k':K}:bo2 (qcN H id k b (.r o k' off len false) []) (.h q)=match H.obj o with
  |some (.sl k'' ro es)=>chk ((K.eq k k'&&K.eq k k''&&decide (off+len≤es.length)&&decide (len*b≤2^47))=true) (.h (chk (ro≤off+len) (.h (q (.r id k 0 len false) ((H.put o none).put id (some (.sl k (ro-off) ((es.drop off).take len))))))))
  | _=>none:=by
 simp only[qcN,qcn,qaW,qb6,Bool.true_or,if_true,chk,List.length_nil,Nat.add_zero,List.isEmpty_nil,Bool.or_true];cases H.obj o with
 |none=>rfl
 |some x =>
  cases x with
  |sl k'' ro es =>
   simp only[List.append_nil,zzg,if_false];split
   ·split<;>rfl
   ·rfl
  | _=>rfl
theorem qiW {o off len:Nat} {k':K} {t:Bool} {ys:List DV} (hy:ys≠[]):bo2 (qcN H id k b (.r o k' off len t) ys) (.h q)=match H.obj o with
  |some (.sl k'' ro es)=>chk ((K.eq k k'&&K.eq k k''&&decide (off+len≤es.length)&&decide ((len+ys.length)*b≤2^47))=true) (.h (brn t (.h (q (.r id k 0 (len+ys.length) false) (H.put id (some (.sl k 0 ((es.drop off).take len++ys)))),chk (ro≤off+len) (.h (q (.r id k 0 (len+ys.length) false) ((H.put o none).put id (some (.sl k (ro-off) ((es.drop off).take len++ys))))))))))
  | _=>none:=by
 cases ys with
 |nil=>exact absurd rfl hy
 |cons y ys=>exact qfp
end
theorem qmn {k:K} : ∀{l:List DV},l≠[]→qaU k l = .r 0 k 0 l.length false∧qaV k l=[some (.sl k 0 l)]
 | [],h=>absurd rfl h
 | _::_,_=>⟨rfl,rfl⟩
theorem qIR (H:Heap):slA H K0 (.d (.l K0 [] true)) none (some (.d (I 0))) none=some (.d (.l K0 [] true)):=rfl
theorem qFf (H:Heap):slA H K0 (.d (.l K0 [] true)) (some (.d (I 0))) none none=some (.d (.l K0 [] true)):=rfl
theorem qvb (L:List DV) (j:Nat) (hj:j≤L.length) (H:Heap):slA (some (.sl K0 0 L)::H) K0 (.r 0 K0 0 L.length false) none (some (.d (I j))) none=some (.r 0 K0 0 j false):=by
 have h1:(0:Int)≤(j:Int)∧(j:Int)≤(L.length:Int):=⟨by omega,by omega⟩
 simp[slA,Heap.obj,bnd,asI,K.eq,h1]
theorem qu3 (L:List DV) (j:Nat) (hj:j≤L.length) (H:Heap):slA (some (.sl K0 0 L)::H) K0 (.r 0 K0 0 L.length false) (some (.d (I j))) none none=some (.r 0 K0 j (L.length-j) false):=by
 have h1:(0:Int)≤(j:Int)∧(j:Int)≤(L.length:Int):=⟨by omega,by omega⟩
 simp[slA,Heap.obj,bnd,asI,K.eq,h1]
theorem sdK (v:DV):qco K0 v 0 K0=some v:=rfl
theorem qCl (T:Tab) (hS:HS T) (gl:List AGl) (t:Bool) (hgl:gl.length≤3518437208883) (hok : ∀y∈gl,y.ok) {d:Nat} (hX:HsK d (K0,[.l (K1 4) 3518437208883 tGl]) (.l (K1 4) (gl.map AGl.dv) t)) (root:Int) (hr:(Lit.int .i64 root).wf=true):Anx (IsL 3518437208883) (T.val 1101 [.l (K1 4) (gl.map AGl.dv) t,I root]):=by
 rw[qaZ T (hS 1101 qkJ rfl) rfl];simp[qkJ,Fr.ofArgs];refine qfq (fun q:Nat×List DV=>⟨[(6,.d (I q.1)),(5,qaU K0 q.2),(1,.d (I root)),(0,.d (.l (K1 4) (gl.map AGl.dv) t))],qaV K0 q.2⟩) (fun q=>q.1≤gl.length∧q.2.length≤q.1∧AW q.2) (fun q=>gl.length-q.1) ?_ (0,[]) ⟨Nat.zero_le _,Nat.zero_le _,fun x hx=>by cases hx⟩ (by simp[gc,Fr.keep,qaf,qab,qae,PV.refs,PV.refsL,qag,gcH,qah,Obj.refs,PV.ren,PV.renL,Obj.ren,Heap.obj,Fr.ren,gh,zzd,qaU,qaV])
 rintro B-⟨i,L⟩ ⟨hi,hl,hw⟩ hx;simp only at hi hl hw⊢;by_cases hlt:i<gl.length
 ·have h1:(i:Int)<gl.length:=by omega
  have h3:=wr1 (i:=i) (by omega)
  have wi:(Lit.int .i64 gl[i].Id).wf=true:=(hok _ (zzs hlt)).1
  obtain⟨b1,own1,e596⟩:=qgF (qwT T hS) d (ds:=[.l (K1 4) (gl.map AGl.dv) t,I gl[i].Id]) ⟨hX,qfK wi,trivial⟩;obtain⟨b2,own2,e1102⟩:=qgF (qAg T hS) d (ds:=[.l (K1 4) (gl.map AGl.dv) t,I gl[i].Id,I root]) ⟨hX,qfK wi,qfK hr,trivial⟩;have hsame:=hx (i+1,L) ⟨by simp only;omega,by simp only;omega,hw⟩ (by simp only;omega)
  have hins : ∀A C:List DV,A.length+C.length=L.length→AW (A++I gl[i].Id::C)→_:=fun A C hac haw=>hx (i+1,A++I gl[i].Id::C) ⟨by simp only;omega,by simp only[zzp,zzn];omega,haw⟩ (by simp only;omega)
  clear hx
  simp only at hsame hins;cases L with
  |nil =>
   simp only[qaU,qaV] at hsame⊢;cases b1 with
   |true =>
    simp[qgI,h1,hlt,h3,e596,zzj];exact hsame _ _ (by simp[gc,Fr.keep,qaf,qab,qae,PV.refs,PV.refsL,qag,gcH,qah,Obj.refs,PV.ren,PV.renL,Obj.ren,Heap.obj,Fr.ren,gh,zzd])
   |false =>
    cases b2 with
    |false =>
     simp[qgI,h1,hlt,h3,e596,e1102,zzj];exact hsame _ _ (by simp[gc,Fr.keep,qaf,qab,qae,PV.refs,PV.refsL,qag,gcH,qah,Obj.refs,PV.ren,PV.renL,Obj.ren,Heap.obj,Fr.ren,gh,zzd])
    |true =>
     simp[qgI,h1,hlt,h3,e596,e1102,zzj];refine qus T gl t root i hlt hgl [] hw (by simp) 0 (zzt _) (fun j hj => ?_) (by simp[gc,Fr.keep,qaf,qab,qae,PV.refs,PV.refsL,qag,gcH,qah,Obj.refs,PV.ren,PV.renL,Obj.ren,Heap.obj,Fr.ren,gh,zzd,qaU,qaV])
     have hj0:j=0:=by simpa using hj
     subst hj0;have hh:=hins [] [] (by simp) (qjG wi hw)
     simp only[List.nil_append,qaU,qaV] at hh⊢;simp[h1,hlt,h3,↓qhA,↓qiF,zzj,↓qbn,↓qbt,↓qbf,↓qbK,↓qbc,↓qbD,↓qbe,qbh,↓qbj,↓qbp,↓qb3,↓qbQ,↓qbO,↓qbH,↓qbi,↓qbz,↓qbd,↓qbE,↓qbN,↓qbT,↓qbV,↓qb2,↓qbG,↓qbL,↓qbk,↓qbJ,↓qbs,↓qbU,↓qbA,↓qbY,↓qbZ,↓qbS,↓qb1,↓qb0,↓qbF,↓qbW,↓qbM,↓qbB,↓qbP,↓qbX,↓qbR,↓qby,qa6,writeS,touchS,qat,qaR,chg,qa2,runs,qaP,qa4,PV.refs,PV.refsL,IOp.okD,IOp.barr,qa9,Nat.testBit,qIR,qFf];exact hh _ _ (by simp[gc,Fr.keep,qaf,qab,qae,PV.refs,PV.refsL,qag,gcH,qah,Obj.refs,PV.ren,PV.renL,Obj.ren,Heap.obj,Fr.ren,gh,zzd])
  |cons x r =>
   have hov:qaU K0 (x::r) = .r 0 K0 0 (x::r).length false:=rfl
   have hoo:qaV K0 (x::r)=[some (.sl K0 0 (x::r))]:=rfl
   have hL0:(x::r)≠[]:=by simp
   generalize x::r=L at *
   simp only[hov,hoo] at hsame⊢;cases b1 with
   |true =>
    simp[qgI,h1,hlt,h3,e596,zzj];exact hsame _ _ (by simp[gc,Fr.keep,qaf,qab,qae,PV.refs,PV.refsL,qag,gcH,qah,Obj.refs,PV.ren,PV.renL,Obj.ren,Heap.obj,Fr.ren,gh,zzd])
   |false =>
    cases b2 with
    |false =>
     simp[qgI,h1,hlt,h3,e596,e1102,zzj];exact hsame _ _ (by simp[gc,Fr.keep,qaf,qab,qae,PV.refs,PV.refsL,qag,gcH,qah,Obj.refs,PV.ren,PV.renL,Obj.ren,Heap.obj,Fr.ren,gh,zzd])
    |true =>
     simp[qgI,h1,hlt,h3,e596,e1102,zzj];refine qus T gl t root i hlt hgl L hw (by omega) L.length (zzt _) (fun j hj => ?_) (by rw[hov,hoo];simp[gc,Fr.keep,qaf,qab,qae,PV.refs,PV.refsL,qag,gcH,qah,Obj.refs,PV.ren,PV.renL,Obj.ren,Heap.obj,Fr.ren,gh,zzd])
     rw[hov,hoo];have s1:=qvb L j hj
     have s2:=qu3 L j hj
     have hac:(L.take j).length+(L.drop j).length=L.length:=by rw[List.length_take,List.length_drop];omega
     have haw:AW (L.take j++I gl[i].Id::L.drop j):=by
      intro y hy;rcases List.mem_append.1 hy with hy|hy
      ·exact hw y (List.mem_of_mem_take hy)
      ·rcases List.mem_cons.1 hy with rfl|hy
       ·exact⟨_,rfl,wi⟩
       ·exact hw y (List.mem_of_mem_drop hy)
     have hh:=hins _ _ hac haw
     have hC:List.take (L.length-j) (L.drop j)=L.drop j:=List.take_of_length_le (by rw[List.length_drop];omega)
     have gj:(j:Int)≤L.length:=by omega
     cases j with
     |zero =>
      have s1 : ∀H,slA (some (.sl K0 0 L)::H) K0 (.r 0 K0 0 L.length false) none (some (.d (I 0))) none=some (.r 0 K0 0 0 false):=qvb L 0 hj
      have s2 : ∀H,slA (some (.sl K0 0 L)::H) K0 (.r 0 K0 0 L.length false) (some (.d (I 0))) none none=some (.r 0 K0 0 L.length false):=qu3 L 0 hj
      simp only[List.take_zero,List.drop_zero,List.nil_append,Nat.sub_zero] at hh hC;have b8:(1+L.length)*8≤140737488355328:=by omega
      have hlen:L.length+1=1+L.length:=by omega
      simp[h1,hlt,h3,↓qhA,↓qiF,↓qiW,hL0,zzj,↓qbn,↓qbt,↓qbf,↓qbK,↓qbc,↓qbD,↓qbe,qbh,↓qbj,↓qbp,↓qb3,↓qbQ,↓qbO,↓qbH,↓qbi,↓qbz,↓qbd,↓qbE,↓qbN,↓qbT,↓qbV,↓qb2,↓qbG,↓qbL,↓qbk,↓qbJ,↓qbs,↓qbU,↓qbA,↓qbY,↓qbZ,↓qbS,↓qb1,↓qb0,↓qbF,↓qbW,↓qbM,↓qbB,↓qbP,↓qbX,↓qbR,↓qby,qa6,writeS,touchS,qat,qaR,chg,qa2,runs,qaP,qa4,PV.refs,PV.refsL,IOp.okD,IOp.barr,qa9,Nat.testBit,s1,s2,hC,b8];exact hh _ _ (by simp[gc,Fr.keep,qaf,qab,qae,PV.refs,PV.refsL,qag,gcH,qah,Obj.refs,PV.ren,PV.renL,Obj.ren,Heap.obj,Fr.ren,gh,zzd,qaU,qaV];omega)
     |succ m =>
      obtain⟨n,hn,hnw⟩:=hw L[m] (zzs (by omega))
      have c1:((m+1:Nat):Int)=(m:Int)+1:=by omega
      have g1:(0:Int)<(m:Int)+1:=by omega
      have g6:IntKind.i64.wrap (m:Int)=m:=wrI (by omega) (by omega)
      have g3:(m:Int)<L.length:=by omega
      have g5:m<L.length:=by omega
      have gj2:(m:Int)+1≤L.length:=by omega
      have gj3:m+1≤L.length:=hj
      have gm:(0:Int)≤(m:Int)+1:=by omega
      rw[c1] at s1 s2⊢;simp[h1,hlt,h3,g1,g6,g3,g5,↓qg9,hn,sdK,zzj,↓qbn,↓qbt,↓qbf,↓qbK,↓qbc,↓qbD,↓qbe,qbh,↓qbj,↓qbp,↓qb3,↓qbQ,↓qbO,↓qbH,↓qbi,↓qbz,↓qbd,↓qbE,↓qbN,↓qbT,↓qbV,↓qb2,↓qbG,↓qbL,↓qbk,↓qbJ,↓qbs,↓qbU,↓qbA,↓qbY,↓qbZ,↓qbS,↓qb1,↓qb0,↓qbF,↓qbW,↓qbM,↓qbB,↓qbP,↓qbX,↓qbR,↓qby,qa6,writeS,touchS,qat,qaR,chg,qa2,runs,qaP,qa4,PV.refs,PV.refsL,IOp.okD,IOp.barr,qa9,Nat.testBit];refine qf3 (fun h => ?_) (fun h => ?_)
      ·simp[h1,h3];exact hsame _ _ (by simp[gc,Fr.keep,qaf,qab,qae,PV.refs,PV.refsL,qag,gcH,qah,Obj.refs,PV.ren,PV.renL,Obj.ren,Heap.obj,Fr.ren,gh,zzd])
      ·have hA:List.take (m+1) L≠[]:=by
        intro c
        have:=congrArg List.length c
        rw[List.length_take,List.length_nil] at this;omega
       have hAl:min (m+1) L.length=m+1:=by omega
       have b8:(m+1)*8≤140737488355328:=by omega
       have b9:(m+1+1)*8≤140737488355328:=by omega
       have b10:(m+1+1+(L.length-(m+1)))*8≤140737488355328:=by omega
       have hAt:List.take (m+1) (List.take (m+1) L)=List.take (m+1) L:=List.take_of_length_le (by rw[List.length_take];omega)
       have hAt2:List.take (m+1+1) (List.take (m+1) L++[I gl[i].Id])=List.take (m+1) L++[I gl[i].Id]:=List.take_of_length_le (by rw[zzp,List.length_take];simp;omega)
       have l2:m+1+(L.length-(m+1))=L.length:=by omega
       by_cases hB:List.drop (m+1) L=[]
       ·have hBl:L.length-(m+1)=0:=by rw[←List.length_drop,hB];rfl
        rw[hB] at hh;simp[h1,hlt,h3,↓qhA,↓qiF,↓qiW,hA,hB,hAl,hBl,hAt,hAt2,zzj,s1,s2,hC,b8,b9,b10,gj3,l2];rw[(qmn (by simp)).1,(qmn (by simp)).2] at hh
        exact hh _ _ (by simp[gc,Fr.keep,qaf,qab,qae,PV.refs,PV.refsL,qag,gcH,qah,Obj.refs,PV.ren,PV.renL,Obj.ren,Heap.obj,Fr.ren,gh,zzd,hAl])
       ·simp[h1,hlt,h3,↓qhA,↓qiF,↓qiW,hA,hB,hAl,hAt,hAt2,zzj,s1,s2,hC,b8,b9,b10,gj3,l2];rw[(qmn (by simp)).1,(qmn (by simp)).2] at hh
        exact hh _ _ (by simp[gc,Fr.keep,qaf,qab,qae,PV.refs,PV.refsL,qag,gcH,qah,Obj.refs,PV.ren,PV.renL,Obj.ren,Heap.obj,Fr.ren,gh,zzd,hAl];omega)
 ·have h1 : ¬((i:Int)<gl.length):=by omega
  cases L with
  |nil =>
   simp[qgI,h1,qaU,qaV];exact qaz ⟨[],_,rfl,by simp,hw⟩
  |cons x r =>
   simp[qgI,h1,qaU,qaV];exact qaz ⟨x::r,_,rfl,by omega,hw⟩
theorem qEk (T:Tab) (hS:HS T):qaj T 1101 qpa:=by
 intro d ds hd;obtain⟨es,t,n,rfl,h1,hn,hle⟩:=glI hd;obtain⟨gl,rfl,hok⟩:=qKA h1;obtain⟨r,e,hr⟩:=qCl T hS gl t (by simpa using hle) hok h1 n hn
 obtain⟨vs,own,rfl,hv⟩:=qyQ (d:=d) hr (by omega)
 exact⟨vs,own,e,hv⟩
end Go.Sim
end
section
namespace Go.Sim
set_option maxRecDepth 10000
set_option maxHeartbeats 4000000
abbrev TW (l:List (List UInt8)):Prop:=∀s∈l,s.length≤maxLen
theorem qCb (es:List DV) (t:Bool) (j:Nat) (hj:j≤es.length) (H:Heap):slA H K0 (.d (.l K0 es t)) none (some (.d (I j))) none=some (.d (.l K0 (es.take j) (t&&j==es.length))):=by
 have h1:(0:Int)≤(j:Int)∧(j:Int)≤(es.length:Int):=⟨by omega,by omega⟩
 simp[slA,bnd,asI,K.eq,h1]
theorem qzL (es:List DV) (t:Bool) (j:Nat) (hj:j≤es.length) (H:Heap):slA H K0 (.d (.l K0 es t)) (some (.d (I j))) none none=some (.d (.l K0 (es.drop j) t)):=by
 have h1:(0:Int)≤(j:Int)∧(j:Int)≤(es.length:Int):=⟨by omega,by omega⟩
 simp[slA,bnd,asI,K.eq,h1]
def IsN (m:Nat) (r:PV×Bool):Prop:=∃(L:List (List UInt8)) (own:Bool),r=(.d (.l K0 (L.map DV.s) false),own)∧L.length≤m∧TW L∧L≠[]
theorem qve (T:Tab) (hS:HS T) (L:List (List UInt8)) (t:Bool) (hL:L.length≤1000) (hw:TW L) (s:List UInt8) (hs:s.length≤maxLen):Anx (IsN (L.length+1)) (T.val 953 [.l K0 (L.map DV.s) t,.s s]):=by
 rw[qaZ T (hS 953 qlw rfl) rfl];simp[qlw,Fr.ofArgs];refine qfq (fun k:Nat=>⟨[(5,.d (I k)),(1,.d (.s s)),(0,.d (.l K0 (L.map DV.s) t))],[]⟩) (fun k=>k≤L.length) (fun k=>L.length-k) ?_ 0 (Nat.zero_le _) (by simp[gc,Fr.keep,qaf,qab,qae,PV.refs,PV.refsL,qag,gcH,qah,Obj.refs,PV.ren,PV.renL,Obj.ren,Heap.obj,Fr.ren,gh,zzd])
 rintro B-k hk hx;have tail : ∀(c:List (Nat×PV)→Option (PV×Bool)),True:=fun _=>trivial
 clear tail
 have s1:=qCb (L.map DV.s) t k (by simpa using hk)
 have s2:=qzL (L.map DV.s) t k (by simpa using hk)
 have hw':TW (L.take k++s::L.drop k):=by
  intro y hy;rcases List.mem_append.1 hy with hy|hy
  ·exact hw y (List.mem_of_mem_take hy)
  ·rcases List.mem_cons.1 hy with rfl|hy
   ·exact hs
   ·exact hw y (List.mem_of_mem_drop hy)
 have hll:(L.take k++s::L.drop k).length≤L.length+1:=by
  rw[zzp,zzn,List.length_take,List.length_drop];omega
 have b1:k*16≤140737488355328:=by omega
 have b2:(k+1)*16≤140737488355328:=by omega
 have b3:(k+1+(L.length-k))*16≤140737488355328:=by omega
 have m1:min k L.length=k:=by omega
 have gk:(k:Int)≤L.length:=by omega
 have at2:List.take (k+1) (List.take k (L.map DV.s)++[DV.s s])=List.take k (L.map DV.s)++[DV.s s]:=List.take_of_length_le (by rw[zzp,List.length_take,zzo];simp;omega)
 have at1:List.take k (List.take k (L.map DV.s))=List.take k (L.map DV.s):=List.take_of_length_le (by rw[List.length_take];omega)
 have le1:k+1+(L.length-k)≤k+(L.length-k+1):=by omega
 have at3:List.take (k+1+(L.length-k)) (List.take k (L.map DV.s)++DV.s s::List.drop k (L.map DV.s))=List.take k (L.map DV.s)++DV.s s::List.drop k (L.map DV.s):=List.take_of_length_le (by simp only[zzp,List.length_take,zzn,List.length_drop,zzo];omega)
 have fin:(L.take k++s::L.drop k).map DV.s=List.take k (L.map DV.s)++DV.s s::List.drop k (L.map DV.s):=by simp
 by_cases hlt:k<L.length
 ·have h1:(k:Int)<L.length:=by omega
  have h3:IntKind.i64.wrap ((k:Int)+1)=(k:Int)+1:=wrI (by omega) (by omega)
  have hx':=hx (k+1) (by omega) (by omega)
  have hB:List.drop k (L.map DV.s)≠[]:=by
   intro c
   have:=congrArg List.length c
   rw[List.length_drop,zzo,List.length_nil] at this;omega
  simp[qpB,h1,hlt,h3,↓qrm,zzj];refine qf3 (fun h => ?_) (fun h => ?_)
  ·simp[h1,h3];exact hx' _ _ (by simp[gc,Fr.keep,qaf,qab,qae,PV.refs,PV.refsL,qag,gcH,qah,Obj.refs,PV.ren,PV.renL,Obj.ren,Heap.obj,Fr.ren,gh,zzd])
  ·simp[h1,hlt,h3,zzj];refine qf3 (fun h => ?_) (fun h => ?_)
   ·cases t
    ·simp;exact qaz ⟨L,_,rfl,by omega,hw,fun c=>by rw[c] at hlt;simp at hlt⟩
    ·simp;exact qaz ⟨L,_,rfl,by omega,hw,fun c=>by rw[c] at hlt;simp at hlt⟩
   ·simp[h1,hlt,h3,s1,s2,↓qiF,↓qiW,hB,b1,b2,b3,m1,gk,at1,at2,sdK,le1];exact qaz ⟨_,_,by rw[at3,fin],hll,hw',by simp⟩
 ·have hk2:k=L.length:=by omega
  have h1 : ¬((k:Int)<L.length):=by omega
  have hB:List.drop k (L.map DV.s)=[]:=List.drop_of_length_le (by simp;omega)
  have b0:L.length-k=0:=by omega
  simp[qpB,h1,s1,s2,↓qiF,↓qiW,hB,b0,b1,b2,b3,m1,gk,at1,at2,sdK];exact qaz ⟨_,_,by rw[fin,hB],hll,hw',by simp⟩
end Go.Sim
end
section
namespace Go.Sim
set_option maxRecDepth 10000
set_option maxHeartbeats 4000000
theorem qob : ∀(es:List DV) (n m:Int),n≤qb9 es n m
 | [],n,m=>by unfold qb9;omega
 |e::es,n,m=>by
  unfold qb9;split
  ·rename_i h;have h1:=(qnr e (m-n) (by omega)).1
   have:=qob es (n+qaA e (m-n)) m
   omega
  ·omega
theorem qAn {e:DV} {es:List DV} {n m:Int} (h:qb9 (e::es) n m≤m):n≤m∧1≤qaA e (m-n)∧qaA e (m-n)≤m-n∧qb9 (e::es) n m=qb9 es (n+qaA e (m-n)) m:=by
 have h0:=qob (e::es) n m
 have hn:n≤m:=by omega
 have e1:qb9 (e::es) n m=qb9 es (n+qaA e (m-n)) m:=by conv=>lhs;unfold qb9;rw[if_pos hn]
 have h1:=(qnr e (m-n) (by omega)).1
 have h2:=qob es (n+qaA e (m-n)) m
 exact⟨hn,h1,by omega,e1⟩
def qm3 (m:Int) (r:PV×Bool):Prop:=∃(L:List (List UInt8)) (own:Bool),r=(.d (.l K0 (L.map DV.s) false),own)∧(L.length:Int)≤m∧TW L
def fN:Bool→List (List UInt8)→Fr
 |true,_=>[(3,.r 0 K0 0 1 false),(1,.p 1 0 0)]
 |false,L=>[(3,.d (.l K0 (L.map DV.s) L.isEmpty)),(1,.p 0 0 0)]
def hN (x:AExpr):Bool→List (List UInt8)→Heap
 |true,L=>[some (.sl K0 0 (L.map DV.s)),some (.box (K1 4) (.d x.dv))]
 |false,_=>[some (.box (K1 4) (.d x.dv))]
theorem quG (T:Tab) (hS:HS T) {Q:PV×Bool→Prop} (x:AExpr) (i:Nat) (N:List (List UInt8)) (hN0:TW N) (sh:Bool) (L:List (List UInt8)) (hsh:sh=true→L.length=1) (hL:TW L) (hl:L.length+N.length≤500) {k:KC (PV×Bool)} {fr:Fr} {H:Heap}
  (hk : ∀sh' L',(sh'=true→L'.length=1)→TW L'→L'.length≤L.length+N.length→Anx Q (k (.exit 2) ((31,.d (.b false))::(6,.d (I N.length))::(5,.d (.l K0 (N.map DV.s) false))::(4,.d (I i))::fN sh' L') (hN x sh' L')))
  (h0:gc [1,3,4,5,6] 0 ⟨fr,H⟩=⟨(6,.d (I 0))::(5,.d (.l K0 (N.map DV.s) false))::(4,.d (I i))::fN sh L,hN x sh L⟩) :
  Anx Q (kC T.env 0 fr H (.h (.loop [1,3,4,5,6] qiX,k))):=by
 refine qfq (fun q:Nat×Bool×List (List UInt8)=>⟨(6,.d (I q.1))::(5,.d (.l K0 (N.map DV.s) false))::(4,.d (I i))::fN q.2.1 q.2.2,hN x q.2.1 q.2.2⟩) (fun q=>q.1≤N.length∧(q.2.1=true→q.2.2.length=1)∧TW q.2.2∧q.2.2.length≤L.length+q.1) (fun q=>N.length-q.1) ?_ (0,sh,L) ⟨Nat.zero_le _,hsh,hL,by simp⟩ h0
 rintro B-⟨j,sh',L'⟩ ⟨hj,hs',hw',hl'⟩ hx;simp only at hj hs' hw' hl'⊢;have hkj:=hk sh' L' hs' hw' (by omega)
 clear hk
 by_cases hlt:j<N.length
 ·have h1:(j:Int)<N.length:=by omega
  have h3:IntKind.i64.wrap ((j:Int)+1)=(j:Int)+1:=wrI (by omega) (by omega)
  have hs:=hN0 N[j] (zzs hlt)
  cases sh' with
  |true =>
   obtain⟨s0,rfl⟩ : ∃s0,L'=[s0]:=by
    have:=hs' rfl
    match L',this with
    | [s0],_=>exact⟨s0,rfl⟩
   obtain⟨r,e953,M,own,rfl,hm,hmw,hm0⟩:=qve T hS [s0] false (by simp) hw' N[j] hs
   have hme:M.isEmpty=false:=by cases M<;>first|rfl|exact absurd rfl hm0
   have hx':=hx (j+1,false,M) ⟨by simp only;omega,(fun c=>by cases c),hmw,by simp only at hm⊢;simp only[zzn,List.length_nil] at hm hl';omega⟩ (by simp only;omega)
   clear hx
   simp only[fN,hN,hme] at hx'⊢;simp only[zzu,List.map_nil] at e953;simp[qiX,h1,hlt,h3,e953,zzj,qaM,pur,qa3,PV.scal,PV.scal1,DV.scal,DV.scal1];exact hx' _ _ (by simp[gc,Fr.keep,qaf,qab,qae,PV.refs,PV.refsL,qag,gcH,qah,Obj.refs,PV.ren,PV.renL,Obj.ren,Heap.obj,Fr.ren,gh,zzd,frz,qcI,Heap.put])
  |false =>
   obtain⟨r,e953,M,own,rfl,hm,hmw,hm0⟩:=qve T hS L' L'.isEmpty (by omega) hw' N[j] hs
   have hme:M.isEmpty=false:=by cases M<;>first|rfl|exact absurd rfl hm0
   have hx':=hx (j+1,false,M) ⟨by simp only;omega,(fun c=>by cases c),hmw,by simp only;omega⟩ (by simp only;omega)
   clear hx
   simp only[fN,hN,hme] at hx'⊢;simp[qiX,h1,hlt,h3,e953,zzj,qaM,pur,qa3,PV.scal,PV.scal1,DV.scal,DV.scal1];exact hx' _ _ (by simp[gc,Fr.keep,qaf,qab,qae,PV.refs,PV.refsL,qag,gcH,qah,Obj.refs,PV.ren,PV.renL,Obj.ren,Heap.obj,Fr.ren,gh,zzd])
 ·have hj2:j=N.length:=by omega
  subst hj2;have h1 : ¬((N.length:Int)<N.length):=by omega
  cases sh' with
  |true =>
   simp only[fN,hN] at hkj⊢;simp[qiX,h1];exact hkj
  |false =>
   simp only[fN,hN] at hkj⊢;simp[qiX,h1];exact hkj
theorem qy8 {x:AExpr} (hx:x.ok) : ∃l:List AExpr,x.Args.l=l.map AExpr.dv∧(∀a∈l,a.ok)∧l.length*56≤140737488355328:=by
 obtain⟨o,m,s,a⟩:=x;obtain⟨a,t⟩:=a;obtain⟨_,_,_,hX⟩:=hx;simp only at hX;obtain⟨h1,l,h2,h3⟩:=qxb hX;refine⟨l,h2,h3,?_⟩;cases hX with|mk _ _ _ h=>rw[h2] at h;simpa[qa8] using h
theorem qKm (x:AExpr) (m:Int):qaA x.dv m=qb9 x.Args.l 1 m:=by
 unfold AExpr.dv;conv=>lhs;unfold qaA
theorem qIw (T:Tab) (hS:HS T) : ∀(n:Nat) (x:AExpr),SizeOf.sizeOf x.dv<n→x.ok→∀m:Int,0≤m→m≤200→qaA x.dv m≤m→Anx (qm3 (qaA x.dv m)) (T.val 922 [x.dv]):=by
 intro n;induction n with
 |zero=>intro x h;exact absurd h (zzm _)
 |succ n ih =>
  intro x hn hx m hm0 hm1 hc;obtain⟨l,h2,h3,h4⟩:=qy8 hx;have hcx:=qKm x m
  rw[h2] at hcx;have key : ∀(k:KC (PV×Bool)) (fr:Fr) (H:Heap) (sh:Bool) (L:List (List UInt8)),(sh=true→L.length=1)→TW L→L.length≤1 →
    (∀sh' L',(sh'=true→L'.length=1)→TW L'→(L'.length:Int)≤qaA x.dv m→Anx (qm3 (qaA x.dv m)) (k (.exit 0) ((19,.d (.b false))::(4,.d (I l.length))::fN sh' L') (hN x sh' L'))) →
    gc [1,3,4] 0 ⟨fr,H⟩=⟨(4,.d (I 0))::fN sh L,hN x sh L⟩→Anx (qm3 (qaA x.dv m)) (kC T.env 0 fr H (.h (.loop [1,3,4] qiv,k))):=by
   intro k fr H sh L hsh hL hl hk h0;refine qfq (fun q:Nat×Bool×List (List UInt8)=>⟨(4,.d (I q.1))::fN q.2.1 q.2.2,hN x q.2.1 q.2.2⟩) (fun q=>q.1≤l.length∧(q.2.1=true→q.2.2.length=1)∧TW q.2.2∧∃nn:Int,(q.2.2.length:Int)≤nn∧1≤nn∧qb9 ((l.drop q.1).map AExpr.dv) nn m=qaA x.dv m) (fun q=>l.length-q.1) ?_ (0,sh,L) ⟨Nat.zero_le _,hsh,hL,1,by simp only;omega,by omega,by simp only[List.drop_zero];exact hcx.symm⟩ h0
   rintro B-⟨i,sh',L'⟩ ⟨hi,hs',hw',nn,hn1,hn2,hn3⟩ hx1;simp only at hi hs' hw' hn1 hn3⊢;by_cases hlt:i<l.length
   ·have h1:(i:Int)<l.length:=by omega
    have h5:IntKind.i64.wrap ((i:Int)+1)=(i:Int)+1:=wrI (by omega) (by omega)
    rw[List.drop_eq_getElem_cons hlt,zzu] at hn3;have hc2:=hc
    rw[←hn3] at hc2;obtain⟨p1,p2,p3,p4⟩:=qAn hc2;obtain⟨r,e922,N,own,rfl,hNl,hNw⟩:=ih l[i] (by have:=qqS (x:=x) (a:=l[i]) (by rw[h2];exact List.mem_map_of_mem (zzs hlt));omega) (h3 _ (zzs hlt)) (m-nn) (by omega) (by omega) p3
    have hsm:L'.length+N.length≤500:=by omega
    have fin : ∀sh2 L2,(sh2=true→L2.length=1)→TW L2→L2.length≤L'.length+N.length→∀fr H,gc [1,3,4] 0 ⟨fr,H⟩=⟨(4,.d (I ((i:Int)+1)))::fN sh2 L2,hN x sh2 L2⟩→Anx (qm3 (qaA x.dv m)) (kC T.env 0 fr H (.h (.loop [1,3,4] B,k))):=by
     intro sh2 L2 q1 q2 q3 fr H q4;exact hx1 (i+1,sh2,L2) ⟨by simp only;omega,q1,q2,nn+qaA (AExpr.dv l[i]) (m-nn),by simp only;omega,by omega,by simp only;rw[←p4];exact hn3⟩ (by simp only;omega) fr H (by rw[q4];rfl)
    clear hx1
    cases sh' with
    |true =>
     simp only[fN,hN];simp[qiv,h1,hlt,h5,h2,e922,zzj,qaM,pur,qa3,PV.scal,PV.scal1,DV.scal,DV.scal1];refine quG T hS x i N hNw true L' hs' hw' hsm (fun sh2 L2 q1 q2 q3 => ?_) (by simp[gc,Fr.keep,qaf,qab,qae,PV.refs,PV.refsL,qag,gcH,qah,Obj.refs,PV.ren,PV.renL,Obj.ren,Heap.obj,Fr.ren,gh,zzd,fN,hN])
     have f2:=fin sh2 L2 q1 q2 q3
     cases sh2 with
     |true =>
      simp only[fN,hN] at f2⊢;simp[h5];exact f2 _ _ (by simp[gc,Fr.keep,qaf,qab,qae,PV.refs,PV.refsL,qag,gcH,qah,Obj.refs,PV.ren,PV.renL,Obj.ren,Heap.obj,Fr.ren,gh,zzd])
     |false =>
      simp only[fN,hN] at f2⊢;simp[h5];exact f2 _ _ (by simp[gc,Fr.keep,qaf,qab,qae,PV.refs,PV.refsL,qag,gcH,qah,Obj.refs,PV.ren,PV.renL,Obj.ren,Heap.obj,Fr.ren,gh,zzd])
    |false =>
     simp only[fN,hN];simp[qiv,h1,hlt,h5,h2,e922,zzj,qaM,pur,qa3,PV.scal,PV.scal1,DV.scal,DV.scal1];refine quG T hS x i N hNw false L' hs' hw' hsm (fun sh2 L2 q1 q2 q3 => ?_) (by simp[gc,Fr.keep,qaf,qab,qae,PV.refs,PV.refsL,qag,gcH,qah,Obj.refs,PV.ren,PV.renL,Obj.ren,Heap.obj,Fr.ren,gh,zzd,fN,hN])
     have f2:=fin sh2 L2 q1 q2 q3
     cases sh2 with
     |true =>
      simp only[fN,hN] at f2⊢;simp[h5];exact f2 _ _ (by simp[gc,Fr.keep,qaf,qab,qae,PV.refs,PV.refsL,qag,gcH,qah,Obj.refs,PV.ren,PV.renL,Obj.ren,Heap.obj,Fr.ren,gh,zzd])
     |false =>
      simp only[fN,hN] at f2⊢;simp[h5];exact f2 _ _ (by simp[gc,Fr.keep,qaf,qab,qae,PV.refs,PV.refsL,qag,gcH,qah,Obj.refs,PV.ren,PV.renL,Obj.ren,Heap.obj,Fr.ren,gh,zzd])
   ·have hi2:i=l.length:=by omega
    subst hi2;have h1 : ¬((l.length:Int)<l.length):=by omega
    rw[List.drop_length,List.map_nil] at hn3;have hf:(L'.length:Int)≤qaA x.dv m:=by rw[←hn3];unfold qb9;exact hn1
    have hkk:=hk sh' L' hs' hw' hf
    cases sh' with
    |true =>
     simp only[fN,hN] at hkk⊢;simp[qiv,h1,h2];exact hkk
    |false =>
     simp only[fN,hN] at hkk⊢;simp[qiv,h1,h2];exact hkk
  have ends : ∀sh' (L':List (List UInt8)),(sh'=true→L'.length=1)→True:=fun _ _ _=>trivial
  clear ends
  rw[qaZ T (hS 922 qi1 rfl) rfl];have hS0:x.S.length≤maxLen:=hx.2.2.1
  by_cases ho:x.Op=4
  ·simp[qi1,Fr.ofArgs,ho,↓qiW];refine key _ _ _ true [x.S] (fun _=>rfl) (fun s hs=>by rw[List.mem_singleton.1 hs];exact hS0) (zzt _) (fun sh' L' q1 q2 q3 => ?_) (by simp[gc,Fr.keep,qaf,qab,qae,PV.refs,PV.refsL,qag,gcH,qah,Obj.refs,PV.ren,PV.renL,Obj.ren,Heap.obj,Fr.ren,gh,zzd,fN,hN])
   cases sh' with
   |true =>
    obtain⟨s0,rfl⟩ : ∃s0,L'=[s0]:=by
     have:=q1 rfl
     match L',this with
     | [s0],_=>exact⟨s0,rfl⟩
    simp only[fN,hN];simp;exact qaz ⟨[s0],_,rfl,q3,q2⟩
   |false =>
    cases L' with
    |nil =>
     simp only[fN,hN];simp;exact qaz ⟨[],_,rfl,q3,q2⟩
    |cons s0 L' =>
     simp only[fN,hN,List.isEmpty_cons];simp;exact qaz ⟨s0::L',_,rfl,q3,q2⟩
  ·have go:=qew ho
   simp[qi1,Fr.ofArgs,ho,go];refine key _ _ _ false [] (fun c=>by cases c) (fun s hs=>by cases hs) (Nat.zero_le _) (fun sh' L' q1 q2 q3 => ?_) (by simp[gc,Fr.keep,qaf,qab,qae,PV.refs,PV.refsL,qag,gcH,qah,Obj.refs,PV.ren,PV.renL,Obj.ren,Heap.obj,Fr.ren,gh,zzd,fN,hN])
   cases sh' with
   |true =>
    obtain⟨s0,rfl⟩ : ∃s0,L'=[s0]:=by
     have:=q1 rfl
     match L',this with
     | [s0],_=>exact⟨s0,rfl⟩
    simp only[fN,hN];simp;exact qaz ⟨[s0],_,rfl,q3,q2⟩
   |false =>
    cases L' with
    |nil =>
     simp only[fN,hN];simp;exact qaz ⟨[],_,rfl,q3,q2⟩
    |cons s0 L' =>
     simp only[fN,hN,List.isEmpty_cons];simp;exact qaz ⟨s0::L',_,rfl,q3,q2⟩
end Go.Sim
end
section
namespace Go.Sim
set_option maxRecDepth 10000
set_option maxHeartbeats 4000000
def qxh (r:PV×Bool):Prop:=∃n:Int,r=(.d (I n),false)∧(Lit.int .i64 n).wf=true
theorem qFG (T:Tab) (hT:HU T) (x:AExpr) (hx:x.ok) (m:Int) (h0:0≤m) (h1:m≤1000):T.val 919 [x.dv,I m]=some (.d (.b (decide (m<qaA x.dv m))),false):=by
 rw[qaZ T (hT 919 qgi rfl) rfl];have e:=qop T hT _ x (Nat.lt_succ_self _) hx m h0 h1
 simp[qgi,Fr.ofArgs,e]
theorem qtX (d:Nat) (x:AExpr) (hx:x.ok):HsK d (kX 0) x.dv:=by
 obtain⟨o,m,s,a⟩:=x;obtain⟨a,t⟩:=a;obtain⟨h1,h2,h3,hX⟩:=hx;exact qn1 h1 h2 h3 (qwL hX)
theorem qw3 {d:Nat} {v:DV} (h:HsK d (kX 0) v) : ∃x:AExpr,v=x.dv∧x.ok:=by
 obtain⟨o,n,s,a,rfl,h1,h2,h3,⟨k,h4⟩⟩:=qru h;have hX:=quO h4
 cases hX with
 |mk es q1 q2 q3=>exact⟨⟨o,n,s,⟨es,false⟩⟩,rfl,h1,h2,h3,.mk es q1 q2 q3⟩
theorem qAb (T:Tab) (hS:HS T) (hU:HU T) (x:AExpr) (hx:x.ok):Anx qxh (T.val 859 [x.dv]):=by
 have e919:=qFG T hU x hx 64 (by decide) (by decide)
 obtain⟨n920,own1,e920,_⟩:=qD4 (qEZ T hS) 0 (ds:=[x.dv]) ⟨qtX 0 x hx,trivial⟩;obtain⟨b921,own2,e921⟩:=qgF (qCK T hS) 0 (ds:=[x.dv]) ⟨qtX 0 x hx,trivial⟩;rw[qaZ T (hS 859 qha rfl) rfl];by_cases hg:(64:Int)<qaA x.dv 64
 ·simp[qha,Fr.ofArgs,e919,hg];exact qaz ⟨5,rfl,by decide⟩
 by_cases h8:8<n920
 ·simp[qha,Fr.ofArgs,e919,hg,e920,h8];exact qaz ⟨5,rfl,by decide⟩
 cases b921 with
 |false =>
  simp[qha,Fr.ofArgs,e919,hg,e920,h8,e921];exact qaz ⟨1,rfl,by decide⟩
 |true =>
  obtain⟨r,e922,L,own3,rfl,hL,hw⟩:=qIw T hS _ x (Nat.lt_succ_self _) hx 64 (by decide) (by decide) (by omega)
  have hL2:L.length≤64:=by omega
  simp[qha,Fr.ofArgs,e919,hg,e920,h8,e921,e922];refine qfq (fun i:Nat=>⟨[(4,.d (I i)),(3,.d (.l K0 (L.map DV.s) false))],[]⟩) (fun i=>i≤L.length) (fun i=>L.length-i) ?_ 0 (Nat.zero_le _) (by simp[gc,Fr.keep,qaf,qab,qae,PV.refs,PV.refsL,qag,gcH,qah,Obj.refs,PV.ren,PV.renL,Obj.ren,Heap.obj,Fr.ren,gh,zzd])
  rintro B-i hi hx1;by_cases hlt:i<L.length
  ·have h1:(i:Int)<L.length:=by omega
   have h3:=wr1 (i:=i) (by omega)
   obtain⟨b,own4,e923⟩:=qgF (qIA T hS) 0 (ds:=[.s L[i]]) ⟨qli (hw _ (zzs hlt)),trivial⟩;have hx':=hx1 (i+1) (by omega) (by omega)
   cases b with
   |true =>
    simp[ql8,h1,hlt,h3,e923,zzj];exact hx' _ _ (by simp[gc,Fr.keep,qaf,qab,qae,PV.refs,PV.refsL,qag,gcH,qah,Obj.refs,PV.ren,PV.renL,Obj.ren,Heap.obj,Fr.ren,gh,zzd])
   |false =>
    simp[ql8,h1,hlt,h3,e923,zzj];exact qaz ⟨4,rfl,by decide⟩
  ·have h1 : ¬((i:Int)<L.length):=by omega
   simp[ql8,h1];exact qaz ⟨0,rfl,by decide⟩
theorem qKo (T:Tab) (hS:HS T) (hU:HU T):qaj T 859 qrc:=by
 intro d ds hd;cases ds with
 |nil=>exact hd.elim
 |cons v ds =>
  cases ds with
  |cons=>exact hd.2.elim
  |nil =>
   obtain⟨x,rfl,hx⟩:=qw3 (show HsK d (kX 0) v from hd.1)
   obtain⟨r,e,n,rfl,hn⟩:=qAb T hS hU x hx;exact⟨[I n],false,e,qfK hn,trivial⟩
theorem qKg {T:Tab} {f:Nat} {a:List (K×List TA)} (h:qaj T f ⟨a,[(none,[.i .i64]),(none,[.b])]⟩) (d:Nat) {ds:List DV} (hd:qbu d a ds) : ∃n b own,T.val f ds=some (.t [.d (I n),.d (.b b)],own)∧(Lit.int .i64 n).wf=true:=by
 obtain⟨vs,own,h1,h2⟩:=h d ds hd;cases vs with
 |nil=>exact h2.elim
 |cons v vs =>
  cases vs with
  |nil=>exact h2.2.elim
  |cons w vs =>
   cases vs with
   |cons=>exact h2.2.2.elim
   |nil =>
    obtain⟨⟨cs,c1,c2⟩,⟨ds,d1,d2⟩,-⟩:=h2;obtain⟨w1,r1,rfl,⟨i,rfl,q1⟩,c3⟩:=qaY c2;obtain rfl:=qcv c3;obtain⟨w5,r5,rfl,⟨b,rfl⟩,d3⟩:=qaY d2;obtain rfl:=qcv d3;cases c1;cases d1;exact⟨i,b,own,h1,q1⟩
theorem qIB {d:Nat} {cs:List DV} {e:DV} (he:mkD (K1 2) cs=some e) (h:HsL d qk5 cs) : ∃x:AVar,e=x.dv∧(Lit.int .i64 x.Typ).wf=true:=by
 obtain⟨w1,r1,rfl,⟨s,rfl,h1⟩,c2⟩:=qaY h;obtain⟨w2,r2,rfl,⟨a,rfl,h2⟩,c3⟩:=qaY c2;obtain rfl:=qcv c3;exact⟨⟨s,a⟩,(Option.some.inj he).symm,h2⟩
def qKJ (r:PV×Bool):Prop:=∃a b:Int,r=(.t [.d (I a),.d (I b)],false)∧(Lit.int .i64 a).wf=true∧(Lit.int .i64 b).wf=true
def tV:List DV→PV
 | []=>.r 0 K0 0 0 true
 | _::r=>.r 0 K0 0 (r.length+1) false
theorem qC0 (T:Tab) (hS:HS T) (V:List AVar) (t:Bool) (hVl:V.length≤maxLen) (hV : ∀y∈V,(Lit.int .i64 y.Typ).wf=true) : ∀(n:Nat) (x:AExpr),SizeOf.sizeOf x.dv<n→x.ok→Anx qKJ (T.val 860 [x.dv,.l (K1 2) (V.map AVar.dv) t]):=by
 intro n;induction n with
 |zero=>intro x h;exact absurd h (zzm _)
 |succ n ih =>
  intro x hn hx;have hm:=mxl
  obtain⟨l,h2,h3,h4⟩:=qy8 hx;rw[qaZ T (hS 860 qgm rfl) rfl];by_cases o1:x.Op=1
  ·simp[qgm,Fr.ofArgs,o1];exact qaz ⟨1,0,rfl,by decide,by decide⟩
  have g1:=qew o1
  by_cases o2:x.Op=2
  ·simp[qgm,Fr.ofArgs,o2];exact qaz ⟨2,0,rfl,by decide,by decide⟩
  have g2:=qew o2
  by_cases o3:x.Op=3
  ·simp[qgm,Fr.ofArgs,o3];exact qaz ⟨3,0,rfl,by decide,by decide⟩
  have g3:=qew o3
  by_cases o4:x.Op=4
  ·simp[qgm,Fr.ofArgs,o4];refine qfq (fun i:Nat=>⟨[(6,.d (I i)),(2,.p 0 0 0),(1,.d (.l (K1 2) (V.map AVar.dv) t))],[some (.box (K1 4) (.d x.dv))]⟩) (fun i=>i≤V.length) (fun i=>V.length-i) ?_ 0 (Nat.zero_le _) (by simp[gc,Fr.keep,qaf,qab,qae,PV.refs,PV.refsL,qag,gcH,qah,Obj.refs,PV.ren,PV.renL,Obj.ren,Heap.obj,Fr.ren,gh,zzd])
   rintro B-i hi hx1;by_cases hlt:i<V.length
   ·have h1:(i:Int)<V.length:=by omega
    have h5:IntKind.i64.wrap ((i:Int)+1)=(i:Int)+1:=wrI (by omega) (by omega)
    have wt:=hV V[i] (zzs hlt)
    obtain⟨b,own4,e924⟩:=qgF (qyd T hS) 0 (ds:=[I V[i].Typ]) ⟨qfK wt,trivial⟩;have hx':=hx1 (i+1) (by omega) (by omega)
    by_cases hq:V[i].Name=x.S
    ·cases b with
     |true =>
      simp[qj6,h1,hlt,h5,hq,e924,zzj,↓qbn,↓qbt,↓qbf,↓qbK,↓qbc,↓qbD,↓qbe,qbh,↓qbj,↓qbp,↓qb3,↓qbQ,↓qbO,↓qbH,↓qbi,↓qbz,↓qbd,↓qbE,↓qbN,↓qbT,↓qbV,↓qb2,↓qbG,↓qbL,↓qbk,↓qbJ,↓qbs,↓qbU,↓qbA,↓qbY,↓qbZ,↓qbS,↓qb1,↓qb0,↓qbF,↓qbW,↓qbM,↓qbB,↓qbP,↓qbX,↓qbR,↓qby,qa6,writeS,touchS,qat,qaR,chg,qa2,runs,qaP,qa4,PV.refs,PV.refsL,IOp.okD,IOp.barr,qa9,Nat.testBit];exact qaz ⟨_,0,rfl,wt,by decide⟩
     |false =>
      simp[qj6,h1,hlt,h5,hq,e924,zzj,↓qbn,↓qbt,↓qbf,↓qbK,↓qbc,↓qbD,↓qbe,qbh,↓qbj,↓qbp,↓qb3,↓qbQ,↓qbO,↓qbH,↓qbi,↓qbz,↓qbd,↓qbE,↓qbN,↓qbT,↓qbV,↓qb2,↓qbG,↓qbL,↓qbk,↓qbJ,↓qbs,↓qbU,↓qbA,↓qbY,↓qbZ,↓qbS,↓qb1,↓qb0,↓qbF,↓qbW,↓qbM,↓qbB,↓qbP,↓qbX,↓qbR,↓qby,qa6,writeS,touchS,qat,qaR,chg,qa2,runs,qaP,qa4,PV.refs,PV.refsL,IOp.okD,IOp.barr,qa9,Nat.testBit];exact qaz ⟨0,3,rfl,by decide,by decide⟩
    ·have gq:(V[i].Name==x.S)=false:=by simpa using hq
     simp[qj6,h1,hlt,h5,hq,gq,e924,zzj,↓qbn,↓qbt,↓qbf,↓qbK,↓qbc,↓qbD,↓qbe,qbh,↓qbj,↓qbp,↓qb3,↓qbQ,↓qbO,↓qbH,↓qbi,↓qbz,↓qbd,↓qbE,↓qbN,↓qbT,↓qbV,↓qb2,↓qbG,↓qbL,↓qbk,↓qbJ,↓qbs,↓qbU,↓qbA,↓qbY,↓qbZ,↓qbS,↓qb1,↓qb0,↓qbF,↓qbW,↓qbM,↓qbB,↓qbP,↓qbX,↓qbR,↓qby,qa6,writeS,touchS,qat,qaR,chg,qa2,runs,qaP,qa4,PV.refs,PV.refsL,IOp.okD,IOp.barr,qa9,Nat.testBit];exact hx' _ _ (by simp[gc,Fr.keep,qaf,qab,qae,PV.refs,PV.refsL,qag,gcH,qah,Obj.refs,PV.ren,PV.renL,Obj.ren,Heap.obj,Fr.ren,gh,zzd])
   ·have h1 : ¬((i:Int)<V.length):=by omega
    simp[qj6,h1];exact qaz ⟨0,4,rfl,by decide,by decide⟩
  have g4:=qew o4
  simp[qgm,Fr.ofArgs,o1,g1,o2,g2,o3,g3,o4,g4];refine qfq (fun q:Nat×List DV=>⟨[(8,.d (I q.1)),(7,tV q.2),(2,.p 1 0 0),(1,.d (.l (K1 2) (V.map AVar.dv) t))],[some (.sl K0 0 q.2),some (.box (K1 4) (.d x.dv))]⟩) (fun q=>q.1≤l.length∧q.2.length=q.1∧AW q.2) (fun q=>l.length-q.1) ?_ (0,[]) ⟨Nat.zero_le _,rfl,fun y hy=>by cases hy⟩ (by simp[gc,Fr.keep,qaf,qab,qae,PV.refs,PV.refsL,qag,gcH,qah,Obj.refs,PV.ren,PV.renL,Obj.ren,Heap.obj,Fr.ren,gh,zzd,tV])
  rintro B-⟨i,L⟩ ⟨hi,hl,hw⟩ hx1;simp only at hi hl hw⊢;by_cases hlt:i<l.length
  ·have h1:(i:Int)<l.length:=by omega
   have h5:IntKind.i64.wrap ((i:Int)+1)=(i:Int)+1:=wrI (by omega) (by omega)
   obtain⟨r,e860,a,f,rfl,wa,wf⟩:=ih l[i] (by have:=qqS (x:=x) (a:=l[i]) (by rw[h2];exact List.mem_map_of_mem (zzs hlt));omega) (h3 _ (zzs hlt))
   have hx':=hx1 (i+1,L++[I a]) ⟨by simp only;omega,by simp[hl],fun y hy=>by
    rcases List.mem_append.1 hy with hy|hy
    ·exact hw y hy
    ·exact⟨a,List.mem_singleton.1 hy,wa⟩⟩ (by simp only;omega)
   clear hx1
   by_cases hf:f=0
   ·subst hf;cases L with
    |nil =>
     simp only[List.nil_append,tV] at hx'⊢;simp[qgs,h1,hlt,h5,h2,e860,zzj];exact hx' _ _ (by simp[gc,Fr.keep,qaf,qab,qae,PV.refs,PV.refsL,qag,gcH,qah,Obj.refs,PV.ren,PV.renL,Obj.ren,Heap.obj,Fr.ren,gh,zzd])
    |cons y L =>
     have b8:(L.length+1+1)*8≤140737488355328:=by simp only[zzn] at hl;omega
     have ht:L.take L.length=L:=List.take_of_length_le (zzt _)
     simp only[List.cons_append,tV] at hx'⊢;simp[qgs,h1,hlt,h5,h2,e860,zzj,b8,ht];exact hx' _ _ (by simp[gc,Fr.keep,qaf,qab,qae,PV.refs,PV.refsL,qag,gcH,qah,Obj.refs,PV.ren,PV.renL,Obj.ren,Heap.obj,Fr.ren,gh,zzd])
   ·have gf:=qew hf
    cases L with
    |nil =>
     simp only[tV];simp[qgs,h1,hlt,h5,h2,e860,zzj,hf,gf,bne];exact qaz ⟨0,f,rfl,by decide,wf⟩
    |cons y L =>
     simp only[tV];simp[qgs,h1,hlt,h5,h2,e860,zzj,hf,gf,bne];exact qaz ⟨0,f,rfl,by decide,wf⟩
  ·have hi2:i=l.length:=by omega
   subst hi2;have h1 : ¬((l.length:Int)<l.length):=by omega
   obtain⟨ty,ok,own5,e925,wty⟩:=qKg (qDF T hS) 0 (ds:=[I x.Op,.l K0 L false]) ⟨qfK hx.1,⟨[.l K0 L false],rfl,⟨L,false,rfl,by omega,by omega,fun e he=>by
    obtain⟨n,rfl,hn⟩:=hw e he;exact⟨[I n],rfl,⟨n,rfl,hn⟩,trivial⟩⟩,trivial⟩,trivial⟩
   cases ok with
   |true =>
    cases L with
    |nil =>
     simp only[tV];simp[qgs,h1,h2,e925,qaM,pur,qa3,PV.scal,PV.scal1,DV.scal,DV.scal1];exact qaz ⟨ty,0,rfl,wty,by decide⟩
    |cons y L =>
     have ht:L.take L.length=L:=List.take_of_length_le (zzt _)
     simp only[tV];simp[qgs,h1,h2,e925,qaM,pur,qa3,PV.scal,PV.scal1,DV.scal,DV.scal1,ht];exact qaz ⟨ty,0,rfl,wty,by decide⟩
   |false =>
    cases L with
    |nil =>
     simp only[tV];simp[qgs,h1,h2,e925,qaM,pur,qa3,PV.scal,PV.scal1,DV.scal,DV.scal1];exact qaz ⟨0,3,rfl,by decide,by decide⟩
    |cons y L =>
     have ht:L.take L.length=L:=List.take_of_length_le (zzt _)
     simp only[tV];simp[qgs,h1,h2,e925,qaM,pur,qa3,PV.scal,PV.scal1,DV.scal,DV.scal1,ht];exact qaz ⟨0,3,rfl,by decide,by decide⟩
theorem qA9 (T:Tab) (hS:HS T):qaj T 860 qo8:=by
 intro d ds hd;cases ds with
 |nil=>exact hd.elim
 |cons v ds =>
  cases ds with
  |nil=>exact hd.2.elim
  |cons w ds =>
   cases ds with
   |cons=>exact hd.2.2.elim
   |nil =>
    obtain⟨h1,⟨cs,c1,c2⟩,-⟩:=hd;obtain⟨x,rfl,hx⟩:=qw3 (show HsK d (kX 0) v from h1)
    obtain⟨w5,r5,rfl,⟨es,t,rfl,q1,_,q2⟩,d3⟩:=qaY c2;obtain rfl:=qcv d3;cases c1;obtain⟨V,rfl,hV⟩:=qmC (f:=AVar.dv) (P:=fun y=>(Lit.int .i64 y.Typ).wf=true) fun e he=>by
     obtain⟨cs,z1,z2⟩:=q2 e he;exact qIB z1 z2
    obtain⟨r,e,a,b,rfl,wa,wb⟩:=qC0 T hS V t (by simpa using q1) hV _ x (Nat.lt_succ_self _) hx
    exact⟨[I a,I b],false,e,qfK wa,qfK wb,trivial⟩
theorem qI3 (T:Tab) (hS:HS T) (hU:HU T) (hP:HP T):HHand T:=⟨qDo T hP,qKo T hS hU,qA9 T hS,qAF T hS,qCe T hS,qzk T hS,qEk T hS⟩
end Go.Sim
end
end
section
namespace Go.Sim
noncomputable def tabH:PT :=
 (.bin 332 qkW (.bin 248 qjS (.bin 247 qk9 (.bin 169 qiN .nil .nil) .nil) (.bin 250 qkm (.bin 249 qjM .nil .nil) .nil)) (.bin 721 qlt (.bin 635 qhP (.bin 333 qlN .nil .nil) .nil) (.bin 1088 qfS .nil .nil)))
abbrev HHo (T:Tab):Prop:=∀n F,tabH.get n=some F→T.F n=some F
end Go.Sim
end
section
open Go.Sim
attribute [local simp ↓] qd7 qer qef qeb qet qeP qda qeJ sqK blK lpK qc8 qex qc2 qdL qc3 qe2 qeG qdF qdO qe0 qdi qeB qd1 qeN qdN qeE qep qdE qdT qdd qdU qeV qdj qdm qeX qdX qey qeq qds qdc qej qdy qdt qe4 qee qd6 qeC qeD qea qeH qd4 qdS qcP qem qeh qcU qdQ qe1 qdI qdq qed qdr qek qdC qeM qdK qev qd9 qe5 qdl qeg qeU qd0 qdV qdR qeY qde qdB qd3 qcl qdp qcH qcK qen qdx qeA qdu qeS qeW qeZ qfa qdD qeQ qeL qc7 qdo qdv qez qeT qdn qfg qfD qfu qfH qft qfR qfp qfA qfO qfI qfC qfM qfT qf6
attribute [local simp] qb6 qdW qe8 qdA qd2 qdb qc6 qc4 qdh qdg qc9 rd IOp.adds qak gh nid rgK rdS qdP qeF qec qdJ qdz qdw qdG qeI qdf qe9 qd5 qel qe7 qeR qei qd8 qeK qc1 qe6 qdH qc5 qfi qfj qfs qcs qfo qfe qfl qfL qfB qfN qfG
section
namespace Go.Sim
set_option maxRecDepth 10000
set_option maxHeartbeats 4000000
end Go.Sim
end
section
namespace Go.Sim
set_option maxRecDepth 10000
set_option maxHeartbeats 4000000
end Go.Sim
end
section
namespace Go.Sim
set_option maxRecDepth 10000
set_option maxHeartbeats 4000000
theorem qCh {α:Type} (p:α→Bool) (l:List α):decide (0≤qh3 p l)=l.any p:=by
  unfold qh3;cases h:l.findIdx? p with
  |none =>
    have:=List.findIdx?_eq_none_iff.1 h
    have:l.any p=false:=by
      rw[List.any_eq_false];intro x hx;simpa using this x hx
    rw[this];rfl
  |some j =>
    have:l.any p=true:=by
      obtain⟨hj,h1,-⟩:=List.findIdx?_eq_some_iff_getElem.1 h;exact List.any_eq_true.2 ⟨_,zzs hj,h1⟩
    rw[this];simp
end Go.Sim
end
end
section
namespace Go.Sim
end Go.Sim
end
section
open Go.Sim
attribute [local simp ↓] qd7 qer qef qeb qet qeP qda qeJ sqK blK lpK qc8 qex qc2 qdL qc3 qe2 qeG qdF qdO qe0 qdi qeB qd1 qeN qdN qeE qep qdE qdT qdd qdU qeV qdj qdm qeX qdX qey qeq qds qdc qej qdy qdt qe4 qee qd6 qeC qeD qea qeH qd4 qdS qcP qem qeh qcU qdQ qe1 qdI qdq qed qdr qek qdC qeM qdK qev qd9 qe5 qdl qeg qeU qd0 qdV qdR qeY qde qdB qd3 qcl qdp qcH qcK qen qdx qeA qdu qeS qeW qeZ qfa qdD qeQ qeL qc7 qdo qdv qez qeT qdn qfg qfD qfu qfH qft qfR qfp qfA qfO qfI qfC qfM qfT qf6
attribute [local simp] qb6 qdW qe8 qdA qd2 qdb qc6 qc4 qdh qdg qc9 rd IOp.adds qak gh nid rgK rdS qdP qeF qec qdJ qdz qdw qdG qeI qdf qe9 qd5 qel qe7 qeR qei qd8 qeK qc1 qe6 qdH qc5 qfi qfj qfs qcs qfo qfe qfl qfL qfB qfN qfG
section
namespace Go.Sim
set_option maxRecDepth 10000
end Go.Sim
end
section
namespace Go.Sim
set_option maxRecDepth 10000
section
variable {R : Type} {y : PV → Option R}
end
def HCl (T:Tab) (f:Nat) (k:K) (b:Nat):Prop:=∀ds,T.val f ds=qkS k b ds
theorem qJZ {T:Tab} {f:Nat} {k:K} {b:Nat} (h:HCl T f k b) {es:List DV} {t:Bool} (hb:es.length*b≤qa8):T.val f [.l k es t]=some (.d (.l k es false),true):=by
 rw[h,qkS];have:es.length*b≤2^47:=hb
 simp[this,qb6]
end Go.Sim
end
end
section
namespace Go.Sim
section
variable {R : Type} {E : Env} {fr : Fr} {H : Heap} {bf : List Nat} {acc : List (List Nat × List Nat)} {id : Nat} {j : KO R}
def qi0:Nat→List Nat→Nat→Bool
 | 0,_,_=>true
 |m+1,bf,n=>qiP (bf.headD 0) 0 n&&qi0 m bf.tail (n+1)
def kS (E:Env) (id:Nat) (fr:Fr) (H:Heap):List IOper→KO R→Option R
 | [],j=>j fr H
 |o::r,j=>match stepD E o id ⟨fr,H⟩ with
  |some s=>kS E (if o.op.adds then id+1 else id) s.fr s.H r j
  |none=>none
theorem qxH : ∀(ops:List IOper) (bf:List Nat) (acc:List (List Nat×List Nat)) (id:Nat) (fr:Fr) (H:Heap),qi0 ops.length bf acc.length=true→kD E id fr H bf acc (.h (ops,j))=kS E id fr H ops j
 | [],_,_,_,_,_,_=>rfl
 |o::r,bf,acc,id,fr,H,h=>by
  simp only[zzn,qi0,zzf] at h;rw[qk0];simp only[kS];cases stepD E o id ⟨fr,H⟩ with
  |none=>rfl
  |some s =>
   simp only[qeO,nfp,qa6,chk,qyw _ _ _ _ _ h.1,if_true];exact qxH r bf.tail _ _ _ _ (by simpa using h.2)
def kSd (E:Env) (id:Nat) (fr:Fr) (H:Heap) {ops:List IOper} {j:KO R} (_:Hd (ops,j)):Option R:=kS E id fr H ops j
theorem qzg {d:Nat} {k:K} {b:Nat} {x y:Rand} {r:List IOper} (h:qi0 (r.length+1) bf acc.length=true):kD E id fr H bf acc (.h (⟨some d,.app k b x y,none⟩::r,j))=bo2 (qaa E (rd E fr) H id (.app k b x y)) (.h fun v H'=>chk (H'.length=H.length) (.h (kSd E (id+1) (fr.set d v) H' (.h (r,j))))):=by
 rw[qxH (⟨some d,.app k b x y,none⟩::r) bf acc id fr H h];simp only[kS,stepD,qam,IOp.okD,zzg,if_false,IOp.barr,if_true];cases qaa E (rd E fr) H id (.app k b x y) with
 |none=>rfl
 |some p =>
  obtain⟨v,H'⟩:=p;simp only[bo2,chk];by_cases hl:H'.length=H.length
  ·have hb:Nat.beq H'.length H.length=true:=by rw[hl];exact Nat.beq_refl _
   rw[if_pos hl];simp only[hb,if_true,IOp.adds];rfl
  ·have hb:Nat.beq H'.length H.length=false:=by
    cases h2:Nat.beq H'.length H.length with
    |false=>rfl
    |true=>exact absurd (Nat.eq_of_beq_eq_true h2) hl
   rw[if_neg hl];simp only[hb,if_false,zzg]
theorem qvY:kSd E id fr H (.h ([],j))=j fr H:=rfl
theorem qwH {d:Nat} {op:IOp} {r:List IOper}:kSd E id fr H (.h (⟨some d,op,none⟩::r,j))=bo2 (qam E (rd E fr) H id op) (.h fun v H'=>kSd E (if op.adds=true then id+1 else id) (fr.set d v) H' (.h (r,j))):=by
 simp only[kSd,kS,stepD];cases qam E (rd E fr) H id op with
 |none=>rfl
 |some p=>rfl
theorem qy2 {op:IOp} {r:List IOper}:kSd E id fr H (.h (⟨none,op,none⟩::r,j))=bo2 (qam E (rd E fr) H id op) (.h fun _ H'=>kSd E (if op.adds=true then id+1 else id) fr H' (.h (r,j))):=by
 simp only[kSd,kS,stepD];cases qam E (rd E fr) H id op with
 |none=>rfl
 |some p=>rfl
end
end Go.Sim
end
section
open Go.Sim
attribute [local simp ↓] qd7 qer qef qeb qet qeP qda qeJ sqK blK lpK qc8 qex qc2 qdL qc3 qe2 qeG qdF qdO qe0 qdi qeB qd1 qeN qdN qeE qep qdE qdT qdd qdU qeV qdj qdm qeX qdX qey qeq qds qdc qej qdy qdt qe4 qee qd6 qeC qeD qea qeH qd4 qdS qcP qem qeh qcU qdQ qe1 qdI qdq qed qdr qek qdC qeM qdK qev qd9 qe5 qdl qeg qeU qd0 qdV qdR qeY qde qdB qd3 qcl qdp qcH qcK qen qdx qeA qdu qeS qeW qeZ qfa qdD qeQ qeL qc7 qdo qdv qez qeT qdn qfg qfD qfu qfH qft qfR qfp qfA qfO qfI qfC qfM qfT qf6
attribute [local simp] qb6 qdW qe8 qdA qd2 qdb qc6 qc4 qdh qdg qc9 rd IOp.adds qak gh nid rgK rdS qdP qeF qec qdJ qdz qdw qdG qeI qdf qe9 qd5 qel qe7 qeR qei qd8 qeK qc1 qe6 qdH qc5 qfi qfj qfs qcs qfo qfe qfl qfL qfB qfN qfG
section
namespace Go.Sim
attribute [local simp ↓ 2000] qzg
set_option maxRecDepth 10000
set_option maxHeartbeats 4000000
def quF:Sg:=⟨[(K1 6,qhG)],[(K0,[.b])]⟩
def qsW:Sg:=⟨[(K0,[.s])],[(K0,[.b])]⟩
def qxs:Sg:=⟨[(K0,[.i .i64])],[(K0,[.b])]⟩
theorem qCs:qaq [] qkW qxs=true:=by kernel_rfl
theorem qJv:qaq [(332,qxs)] qk9 quF=true:=by kernel_rfl
theorem qEG:qaq [] qjS qsW=true:=by kernel_rfl
theorem qIP (T:Tab) (hH:HHo T):qaj T 247 quF:=qau (hH 247 qk9 rfl) qJv fun _=>qal (qau (hH 332 qkW rfl) qCs fun _=>qar) qar
theorem qHR (T:Tab) (hH:HHo T):qaj T 248 qsW:=qau (hH 248 qjS rfl) qEG fun _=>qar
theorem qIt (d:Nat) (x:AHold) (hx:x.ok):HsK d (K1 6,qhG) x.dv :=
 ⟨x.cells,rfl,⟨_,rfl,hx.1⟩,⟨_,rfl,hx.2.1⟩,⟨_,rfl,hx.2.2.1⟩,⟨_,rfl,hx.2.2.2.1⟩,⟨_,rfl,hx.2.2.2.2.1⟩,⟨_,rfl,hx.2.2.2.2.2⟩,trivial⟩
theorem qya {α:Type} (T:Tab) (hH:HHo T) (g:Nat) (dv:α→DV) (p:α→Bool) (c:PV) (cs:List PV) (H0:Heap) (hC:Cl H0) (hc : ∀r∈PV.refsL (c::cs),r<H0.length) (l:List α) (hv : ∀x∈l,T.ref g (.d (dv x)::c::cs) H0=some (.d (.b (p x)),H0)) (s:Bool) (hn:l.length≤maxLen) :
  T.ref 249 [.d (.l (K1 6) (l.map dv) s),.f g (c::cs)] H0=some (.d (.b (l.any p)),H0):=by
 rw[qic T (hH 249 qjM rfl) rfl];have e:=qtN T (show T.F 333=some (qm1 (K1 6)) from hH 333 qlN rfl) g dv p c cs H0 hC hc l hv s hn
 have e2:=qCh p l
 simp[qjM,Fr.ofArgs,e,e2,qhB,qjI hC,quD hC]
theorem qK1 (T:Tab) (hH:HHo T) (x h:AHold):T.ref 250 [.d x.dv,.p 0 0 0] [some (.box (K1 6) (.d h.dv))]=some (.d (.b (x.Key==h.Key)),[some (.box (K1 6) (.d h.dv))]):=by
 rw[qic T (hH 250 qkm rfl) rfl];have hC:Cl [some (.box (K1 6) (.d h.dv))]:=fun r h=>by simp[qae,qah,Obj.refs,PV.refs] at h
 simp[qkm,Fr.ofArgs,qhB];exact (qjI hC [some (.box (K1 6) (.d x.dv))] _)
theorem qJh (k:K) (es:List DV) (t:Bool) (j:Nat) (hj:j≤es.length) (H:Heap):slA H k (.d (.l k es t)) none (some (.d (I j))) none=some (.d (.l k (es.take j) (t&&j==es.length))):=by
 have h1:(0:Int)≤(j:Int)∧(j:Int)≤(es.length:Int):=⟨by omega,by omega⟩
 simp[slA,bnd,asI,qb6,h1]
theorem quj (T:Tab) (hH:HHo T) (l:List AHold) (t:Bool) (hl:l.length≤maxLen) (ho : ∀y∈l,y.ok):Anx qxh (T.val 169 [.l (K1 6) (l.map AHold.dv) t]):=by
 have hm:=mxl
 rw[qaZ T (hH 169 qiN rfl) rfl];by_cases g64:(64:Int)<l.length
 ·simp[qiN,Fr.ofArgs,g64];exact qaz ⟨5,rfl,by decide⟩
 simp[qiN,Fr.ofArgs,g64];refine qfq (fun i:Nat=>⟨[(10,.d (I i)),(9,.d (I l.length)),(8,.d (.l (K1 6) (l.map AHold.dv) t)),(0,.d (.l (K1 6) (l.map AHold.dv) t))],[]⟩) (fun i=>i≤l.length) (fun i=>l.length-i) ?_ 0 (Nat.zero_le _) (by simp[gc,Fr.keep,qaf,qab,qae,PV.refs,PV.refsL,qag,gcH,qah,Obj.refs,PV.ren,PV.renL,Obj.ren,Heap.obj,Fr.ren,gh,zzd])
 rintro B-i hi hx;by_cases hlt:i<l.length
 ·have h1:(i:Int)<l.length:=by omega
  have h3:=wr1 (i:=i) (by omega)
  have hx':=hx (i+1) (by omega) (by omega)
  have hok:=ho _ (zzs hlt)
  obtain⟨b1,own1,e247⟩:=qgF (qIP T hH) 0 (ds:=[l[i].dv]) ⟨qIt 0 _ hok,trivial⟩;obtain⟨b2,own2,e248⟩:=qgF (qHR T hH) 0 (ds:=[.s l[i].Key]) ⟨qli hok.2.2.2.2.2,trivial⟩;cases b1 with
  |false =>
   simp[qhM,h1,hlt,h3,e247,zzj];exact qaz ⟨1,rfl,by decide⟩
  |true =>
   cases b2 with
   |false =>
    simp[qhM,h1,hlt,h3,e247,e248,zzj];exact qaz ⟨4,rfl,by decide⟩
   |true =>
    have s1:=qJh (K1 6) (l.map AHold.dv) t i (by simp;omega)
    have hC:Cl [some (.box (K1 6) (.d l[i].dv))]:=fun r h=>by simp[qae,qah,Obj.refs,PV.refs] at h
    have e249:=fun s=>qya T hH 250 AHold.dv (fun x=>x.Key==l[i].Key) (.p 0 0 0) [] _ hC (by simp[PV.refs,PV.refsL]) (l.take i) (fun x _=>qK1 T hH x l[i]) s (by rw[List.length_take];omega)
    generalize ((l.take i).any fun x=>x.Key==l[i].Key)=b3 at e249
    simp only[List.map_take] at e249;have fin : ∀c:Nat,True:=fun _=>trivial
    clear fin
    cases i with
    |zero =>
     have s2 : ∀H,slA H (K1 6) (.d (.l (K1 6) (l.map AHold.dv) t)) none (some (.d (I 0))) none=some (.d (.l (K1 6) [] (t&&0==(l.map AHold.dv).length))):=fun H=>s1 H
     simp only[List.take_zero] at e249;have h1':(0:Int)<l.length:=h1
     have h3':IntKind.i64.wrap 1=1:=rfl
     cases b3 with
     |true =>
      simp[qhM,h1',hlt,h3',e247,e248,e249,s2,zzj,↓qbn,↓qbt,↓qbf,↓qbK,↓qbc,↓qbD,↓qbe,qbh,↓qbj,↓qbp,↓qb3,↓qbQ,↓qbO,↓qbH,↓qbi,↓qbz,↓qbd,↓qbE,↓qbN,↓qbT,↓qbV,↓qb2,↓qbG,↓qbL,↓qbk,↓qbJ,↓qbs,↓qbU,↓qbA,↓qbY,↓qbZ,↓qbS,↓qb1,↓qb0,↓qbF,↓qbW,↓qbM,↓qbB,↓qbP,↓qbX,↓qbR,↓qby,qa6,writeS,touchS,qat,qaR,chg,qa2,runs,qaP,qa4,PV.refs,PV.refsL,IOp.okD,IOp.barr,qa9,Nat.testBit];exact qaz ⟨12,rfl,by decide⟩
     |false =>
      simp[qhM,h1',hlt,h3',e247,e248,e249,s2,zzj,↓qbn,↓qbt,↓qbf,↓qbK,↓qbc,↓qbD,↓qbe,qbh,↓qbj,↓qbp,↓qb3,↓qbQ,↓qbO,↓qbH,↓qbi,↓qbz,↓qbd,↓qbE,↓qbN,↓qbT,↓qbV,↓qb2,↓qbG,↓qbL,↓qbk,↓qbJ,↓qbs,↓qbU,↓qbA,↓qbY,↓qbZ,↓qbS,↓qb1,↓qb0,↓qbF,↓qbW,↓qbM,↓qbB,↓qbP,↓qbX,↓qbR,↓qby,qa6,writeS,touchS,qat,qaR,chg,qa2,runs,qaP,qa4,PV.refs,PV.refsL,IOp.okD,IOp.barr,qa9,Nat.testBit];exact hx' _ _ (by simp[gc,Fr.keep,qaf,qab,qae,PV.refs,PV.refsL,qag,gcH,qah,Obj.refs,PV.ren,PV.renL,Obj.ren,Heap.obj,Fr.ren,gh,zzd])
    |succ m =>
     have c1:((m+1:Nat):Int)=(m:Int)+1:=by omega
     have g1:(0:Int)<(m:Int)+1:=by omega
     have g0:(0:Int)≤(m:Int)+1:=by omega
     have g6:IntKind.i64.wrap (m:Int)=m:=wrI (by omega) (by omega)
     have g3:(m:Int)<l.length:=by omega
     have g5:m<l.length:=by omega
     rw[c1] at h1 h3 s1⊢;simp[qhM,h1,hlt,h3,g0,g1,g6,g3,g5,e247,e248,zzj,↓qbn,↓qbt,↓qbf,↓qbK,↓qbc,↓qbD,↓qbe,qbh,↓qbj,↓qbp,↓qb3,↓qbQ,↓qbO,↓qbH,↓qbi,↓qbz,↓qbd,↓qbE,↓qbN,↓qbT,↓qbV,↓qb2,↓qbG,↓qbL,↓qbk,↓qbJ,↓qbs,↓qbU,↓qbA,↓qbY,↓qbZ,↓qbS,↓qb1,↓qb0,↓qbF,↓qbW,↓qbM,↓qbB,↓qbP,↓qbX,↓qbR,↓qby,qa6,writeS,touchS,qat,qaR,chg,qa2,runs,qaP,qa4,PV.refs,PV.refsL,IOp.okD,IOp.barr,qa9,Nat.testBit];refine qf3 (fun h => ?_) (fun h => ?_)
     ·simp;exact qaz ⟨10,rfl,by decide⟩
     ·cases b3 with
      |true =>
       simp[e249,s1,h3];exact qaz ⟨12,rfl,by decide⟩
      |false =>
       simp[e249,s1,h3];exact hx' _ _ (by simp[gc,Fr.keep,qaf,qab,qae,PV.refs,PV.refsL,qag,gcH,qah,Obj.refs,PV.ren,PV.renL,Obj.ren,Heap.obj,Fr.ren,gh,zzd])
 ·have h1 : ¬((i:Int)<l.length):=by omega
  simp[qhM,h1];exact qaz ⟨0,rfl,by decide⟩
end Go.Sim
end
section
namespace Go.Sim
attribute [local simp ↓ 2000] qzg
set_option maxRecDepth 10000
set_option maxHeartbeats 4000000
theorem qzQ (T:Tab) (hH:HHo T) (x h:AHold) (ro:Nat) (es:List DV):T.ref 721 [.d x.dv,.p 0 0 0] [some (.box (K1 6) (.d h.dv)),some (.sl (K1 6) ro es)]=some (.d (.b (x.Key==h.Key)),[some (.box (K1 6) (.d h.dv)),some (.sl (K1 6) ro es)]):=by
 rw[qic T (hH 721 qlt rfl) rfl];have hC:Cl [some (.box (K1 6) (.d h.dv)),some (.sl (K1 6) ro es)]:=fun r h=>by simp[qae,qah,Obj.refs,PV.refs] at h
 simp[qlt,Fr.ofArgs,qhB];exact (qjI hC [some (.box (K1 6) (.d x.dv))] _)
def qAs (l:List AHold) (h:AHold) (r:PV×Bool):Prop:=∃(L:List DV) (t:Bool) (e:Int),r=(.t [.d (.l (K1 6) L t),.d (I e)],false)∧(e=0→L=(l++[h]).map AHold.dv)
theorem qzs (T:Tab) (hH:HHo T) (hC:HCl T 228 (K1 6) 56) (l:List AHold) (t:Bool) (hl:l.length≤1000) (ho : ∀y∈l,y.ok) (h:AHold) (hh:h.ok):Anx (qAs l h) (T.val 635 [.l (K1 6) (l.map AHold.dv) t,h.dv]):=by
 have hm:=mxl
 obtain⟨_,e1,n1,rfl,_⟩:=quj T hH l t (by omega) ho
 obtain⟨_,e2,n2,rfl,_⟩:=quj T hH [h] false (by simp;omega) (fun y hy=>by rw[List.mem_singleton.1 hy];exact hh)
 simp only[zzu,List.map_nil] at e2;rw[qaZ T (hH 635 qhP rfl) rfl];by_cases g1:n1=0
 ·subst g1;by_cases g2:n2=0
  ·subst g2;have hCl:Cl [some (.box (K1 6) (.d h.dv)),some (.sl (K1 6) 0 [h.dv])]:=fun r h=>by simp[qae,qah,Obj.refs,PV.refs] at h
   have e249:=qya T hH 721 AHold.dv (fun x=>x.Key==h.Key) (.p 0 0 0) [] _ hCl (by simp[PV.refs,PV.refsL]) l (fun x _=>qzQ T hH x h 0 [h.dv]) t (by omega)
   generalize (l.any fun x=>x.Key==h.Key)=b3 at e249
   have e228:=qJZ hC (es:=l.map AHold.dv) (t:=t) (by rw[zzo];unfold qa8;omega)
   have b56:(l.length+1)*56≤140737488355328:=by omega
   have ht:List.take l.length (l.map AHold.dv)=l.map AHold.dv:=List.take_of_length_le (by simp)
   have ht2:List.take (l.length+1) (l.map AHold.dv++[h.dv])=l.map AHold.dv++[h.dv]:=List.take_of_length_le (by simp)
   simp[qhP,Fr.ofArgs,e1,e2,bne,qaM,pur,qa3,PV.scal,PV.scal1,DV.scal,DV.scal1];by_cases hl0:l.length=0
   ·have g0 : ¬(0<l.length):=by omega
    have f64:((l.length:Int)==64)=false:=qew (by omega)
    have f64' : ¬((l.length:Int)=64):=by omega
    have f65:(l.length==64)=false:=by simpa using (by omega : ¬l.length=64)
    cases b3 with
    |true =>
     simp[g0,hl0,e249,↓qbn,↓qbt,↓qbf,↓qbK,↓qbc,↓qbD,↓qbe,qbh,↓qbj,↓qbp,↓qb3,↓qbQ,↓qbO,↓qbH,↓qbi,↓qbz,↓qbd,↓qbE,↓qbN,↓qbT,↓qbV,↓qb2,↓qbG,↓qbL,↓qbk,↓qbJ,↓qbs,↓qbU,↓qbA,↓qbY,↓qbZ,↓qbS,↓qb1,↓qb0,↓qbF,↓qbW,↓qbM,↓qbB,↓qbP,↓qbX,↓qbR,↓qby,qa6,writeS,touchS,qat,qaR,chg,qa2,runs,qaP,qa4,PV.refs,PV.refsL,IOp.okD,IOp.barr,qa9,Nat.testBit];exact qaz ⟨[],true,12,rfl,fun c=>by cases c⟩
    |false =>
     simp[g0,e249,f64,f64',f65,e228,b56,ht,ht2,↓qbn,↓qbt,↓qbf,↓qbK,↓qbc,↓qbD,↓qbe,qbh,↓qbj,↓qbp,↓qb3,↓qbQ,↓qbO,↓qbH,↓qbi,↓qbz,↓qbd,↓qbE,↓qbN,↓qbT,↓qbV,↓qb2,↓qbG,↓qbL,↓qbk,↓qbJ,↓qbs,↓qbU,↓qbA,↓qbY,↓qbZ,↓qbS,↓qb1,↓qb0,↓qbF,↓qbW,↓qbM,↓qbB,↓qbP,↓qbX,↓qbR,↓qby,qa6,writeS,touchS,qat,qaR,chg,qa2,runs,qaP,qa4,PV.refs,PV.refsL,IOp.okD,IOp.barr,qa9,Nat.testBit,qiP,qi0,↓qvY,↓qwH,↓qy2,qtB,qaM,pur,qa3,PV.scal,PV.scal1,DV.scal,DV.scal1];exact qaz ⟨_,false,0,rfl,fun _=>by simp⟩
   ·have g0:0<l.length:=by omega
    obtain⟨m,hm1⟩ : ∃m,l.length=m+1:=⟨l.length-1,by omega⟩
    have q1:IntKind.i64.wrap ((l.length:Int)-1)=m:=by rw[hm1];rw[show ((m+1:Nat):Int)-1=m by omega];exact wrI (by omega) (by omega)
    have q2:(m:Int)<l.length:=by omega
    have q3:m<l.length:=by omega
    simp[g0,q1,q2,q3,zzj,↓qbn,↓qbt,↓qbf,↓qbK,↓qbc,↓qbD,↓qbe,qbh,↓qbj,↓qbp,↓qb3,↓qbQ,↓qbO,↓qbH,↓qbi,↓qbz,↓qbd,↓qbE,↓qbN,↓qbT,↓qbV,↓qb2,↓qbG,↓qbL,↓qbk,↓qbJ,↓qbs,↓qbU,↓qbA,↓qbY,↓qbZ,↓qbS,↓qb1,↓qb0,↓qbF,↓qbW,↓qbM,↓qbB,↓qbP,↓qbX,↓qbR,↓qby,qa6,writeS,touchS,qat,qaR,chg,qa2,runs,qaP,qa4,PV.refs,PV.refsL,IOp.okD,IOp.barr,qa9,Nat.testBit];refine qf3 (fun h => ?_) (fun h => ?_)
    ·simp;exact qaz ⟨[],true,10,rfl,fun c=>by cases c⟩
    ·cases b3 with
     |true =>
      simp[e249];exact qaz ⟨[],true,12,rfl,fun c=>by cases c⟩
     |false =>
      by_cases h64:l.length=64
      ·have f64':(l.length:Int)=64:=by omega
       simp[e249,h64,f64'];exact qaz ⟨[],true,5,rfl,fun c=>by cases c⟩
      ·have f64:((l.length:Int)==64)=false:=qew (by omega)
       have f64' : ¬((l.length:Int)=64):=by omega
       simp[e249,f64,f64',h64,e228,b56,ht,ht2,↓qbn,↓qbt,↓qbf,↓qbK,↓qbc,↓qbD,↓qbe,qbh,↓qbj,↓qbp,↓qb3,↓qbQ,↓qbO,↓qbH,↓qbi,↓qbz,↓qbd,↓qbE,↓qbN,↓qbT,↓qbV,↓qb2,↓qbG,↓qbL,↓qbk,↓qbJ,↓qbs,↓qbU,↓qbA,↓qbY,↓qbZ,↓qbS,↓qb1,↓qb0,↓qbF,↓qbW,↓qbM,↓qbB,↓qbP,↓qbX,↓qbR,↓qby,qa6,writeS,touchS,qat,qaR,chg,qa2,runs,qaP,qa4,PV.refs,PV.refsL,IOp.okD,IOp.barr,qa9,Nat.testBit,qiP,qi0,↓qvY,↓qwH,↓qy2,qtB,qaM,pur,qa3,PV.scal,PV.scal1,DV.scal,DV.scal1];exact qaz ⟨_,false,0,rfl,fun _=>by simp⟩
  ·have f2:=qew g2
   simp[qhP,Fr.ofArgs,e1,e2,g2,f2,bne,qaM,pur,qa3,PV.scal,PV.scal1,DV.scal,DV.scal1];exact qaz ⟨[],true,1,rfl,fun c=>by cases c⟩
 ·have f1:=qew g1
  simp[qhP,Fr.ofArgs,e1,g1,f1,bne,qaM,pur,qa3,PV.scal,PV.scal1,DV.scal,DV.scal1];exact qaz ⟨[],true,1,rfl,fun c=>by cases c⟩
end Go.Sim
end
section
namespace Go.Sim
set_option maxRecDepth 10000
set_option maxHeartbeats 4000000
def qba (b:ABooks) (id day:Int):Int×Int:=if (qdY b id day).2=0 then (w64 (w64 (w64 (ofR b.Journal.l id-(qdY b id day).1)-qhO b.Holds.l id day)-qkU b.Blocks.l id day),0) else (0,(qdY b id day).2)
theorem quY (T:Tab) (hT:HU T) (b:ABooks) (id day:Int) (hb:b.ok) (hbl:b.Blocks.l.length≤100000):T.val 634 [b.dv,I id,I day]=some (.t [.d (I (qba b id day).1),.d (I (qba b id day).2)],false):=by
 rw[qaZ T (hT 634 qjP rfl) rfl];have e1:=qC1 T hT b id day hb
 have e2:=qKM T hT b.Journal.l b.Journal.t id (hb.2.2.2.2.2.2.1).1 (fun e he=>((hb.2.2.2.2.2.2.1).2 e he).2.2.2.2.2.2.2.2.1.1)
 rw[qJ7] at e2;have e3:=qIa T hT b.Holds.l b.Holds.t id day (hb.2.2.2.2.2.2.2.1).1
 have e4:=qCm T hT b.Blocks.l b.Blocks.t id day hbl
 unfold qba;generalize qdY b id day=fl at e1⊢;simp[qjP,Fr.ofArgs,e1];repeat' (refine qbr (fun h => ?_) (fun h => ?_)<;>(try simp at h)<;>(try simp[h,e2,e3,e4]))
 all_goals simp_all[w64]
theorem qls (l:List DV):DV.cells (.a l)=l:=rfl
end Go.Sim
end
section
namespace Go.Sim
set_option maxRecDepth 10000
set_option maxHeartbeats 4000000
theorem qxz {α β:Type} (f:Nat→β→α→β) : ∀(l:List α) (i:Nat) (b:β) (x:α),qaT f i b (l++[x])=f (i+l.length) (qaT f i b l) x
 | [],i,b,x=>rfl
 |y::l,i,b,x=>by
  show qaT f (i+1) (f i b y) (l++[x])=_
  rw[qxz f l (i+1)];rw[show i+1+l.length=i+(y::l).length by rw[zzn];omega]
  rfl
theorem qDn (T:Tab) (hU:HU T) (hS:HS T) (b:ABooks) (hb:b.ok) (hg:qhi b=true):T.val 1093 [b.dv]=some (.d (.b false),false):=by
 have e:=qFU T hU b hb
 rw[hg] at e;rw[qaZ T (hS 1093 qhZ rfl) rfl];simp[qhZ,Fr.ofArgs,e]
def qfx (b:ABooks) (h:AHold) (t:Bool):ABooks:={ b with Holds:=⟨b.Holds.l++[h],t⟩ }
def qrf (h:AHold) (i d:Int):Bool:=h.Account==i&&(decide (h.From≤d)&&decide (d≤h.To))
theorem qzJ (b:ABooks) (h:AHold) (t:Bool) (i d:Int):(qba (qfx b h t) i d).2=(qba b i d).2:=by
 unfold qba;show (if (qdY b i d).2=0 then _ else _:Int×Int).2=_
 split
 ·rename_i e;rfl
 ·rfl
theorem qz7 (b:ABooks) (h:AHold) (t:Bool) (i d:Int) (he:(qba b i d).2≠0):(qba (qfx b h t) i d).1=(qba b i d).1:=by
 unfold qba at he⊢;show (if (qdY b i d).2=0 then _ else _:Int×Int).1=_
 split
 ·rename_i e;rw[if_pos e] at he;exact absurd rfl he
 ·rfl
theorem qHS (b:ABooks) (h:AHold) (t:Bool) (i d:Int) (he:(qba b i d).2=0):(qba (qfx b h t) i d).1=if qrf h i d=true then IntKind.i64.wrap ((qba b i d).1-h.Amount) else (qba b i d).1:=by
 have hf:(qdY b i d).2=0:=by
  unfold qba at he;split at he
  ·rename_i e;exact e
  ·exact he
 have e1:(qba (qfx b h t) i d).1=w64 (w64 (w64 (ofR b.Journal.l i-(qdY b i d).1)-qhO (b.Holds.l++[h]) i d)-qkU b.Blocks.l i d):=by
  unfold qba;show (if (qdY b i d).2=0 then _ else _:Int×Int).1=_
  rw[if_pos hf];rfl
 have e2:(qba b i d).1=w64 (w64 (w64 (ofR b.Journal.l i-(qdY b i d).1)-qhO b.Holds.l i d)-qkU b.Blocks.l i d):=by
  unfold qba;rw[if_pos hf]
 have e3:qhO (b.Holds.l++[h]) i d=qgk i d (0+b.Holds.l.length) (qhO b.Holds.l i d) h:=qxz _ _ _ _ _
 rw[e1,e2,e3];unfold qgk qrf;split
 ·unfold w64;simp only[IntKind.wrap_i64];omega
 ·rfl
theorem qFl (T:Tab) (hU:HU T) (hS:HS T) (hP:HP T) (hH:HHo T) (hC:HCl T 228 (K1 6) 56) (hl:T.val 1091 []=some (.d (.b true),false)) (b:ABooks) (hb:b.ok) (hty:qan ABooks.ty b.cells) (h:AHold) (hh:h.ok) (i d a:Int):T.val 1088 [b.dv,h.dv,.a [I i,I d,I a]]=some (.d (.b true),false):=by
 have hm:=mxl
 obtain⟨bs,own,e1093⟩:=qgF (qJY T hS (qI3 T hS hU hP)) 0 (ds:=[b.dv]) ⟨⟨b.cells,rfl,qrs 0 ABooks.ty hty⟩,trivial⟩;rw[qaZ T (hH 1088 qfS rfl) rfl];cases bs with
 |false =>
  simp[qfS,Fr.ofArgs,e1093,hl]
 |true =>
  have hg:qhi b=false:=by
   cases hg:qhi b with
   |false=>rfl
   |true=>rw[qDn T hU hS b hb hg] at e1093;cases e1093
  unfold qhi at hg;simp only[Bool.or_eq_false_iff,decide_eq_false_iff_not] at hg;have hbl:b.Blocks.l.length≤100000:=by omega
  have hho:b.Holds.l.length≤100:=by
   have:=hg.1.1.1.1.2
   unfold qid at this;simp only[Bool.or_eq_false_iff,decide_eq_false_iff_not] at this;omega
  obtain⟨r,e635,L,t,e,rfl,hL⟩:=qzs T hH hC b.Holds.l b.Holds.t (by omega) hb.2.2.2.2.2.2.2.1.2 h hh
  by_cases he:e=0
  ·subst he;have hL':=hL rfl
   subst hL';have e634:=quY T hU b i d hb hbl
   have hb2:(qfx b h t).ok:=by
    obtain⟨h1,h2,h3,h4,h5,h6,h7,h8,h9⟩:=hb;refine⟨h1,h2,h3,h4,h5,h6,h7,⟨?_,?_⟩,h9⟩
    ·show (b.Holds.l++[h]).length≤maxLen
     rw[zzp];simp;omega
    ·intro y hy;rcases List.mem_append.1 hy with hy|hy
     ·exact h8.2 y hy
     ·rw[List.mem_singleton.1 hy];exact hh
   have e634':=quY T hU (qfx b h t) i d hb2 hbl
   have mk20 : ∀(q:PV→Option (PV×Bool)),bo (mkP (K1 22) (putAt (PV.d b.dv).cells 20 (PV.cells (.d (.l (K1 6) (List.map AHold.dv b.Holds.l++[h.dv]) t))))) (.h q)=q (.d (qfx b h t).dv):=fun q=>by
    rw[show List.map AHold.dv b.Holds.l++[h.dv]=(b.Holds.l++[h]).map AHold.dv by simp];rfl
   have cl22:(PV.d b.dv).cells.length=22:=rfl
   have a1:=qzJ b h t i d
   by_cases h0:(qba b i d).2=0
   ·have a2:=qHS b h t i d h0
    unfold qrf at a2;by_cases q1:h.Account=i
    ·by_cases q2:h.From≤d
     ·by_cases q3:d≤h.To
      ·have a3:(qba (qfx b h t) i d).1=IntKind.i64.wrap ((qba b i d).1-h.Amount):=by rw[a2,if_pos (by simp[q1,q2,q3])]
       simp[qfS,Fr.ofArgs,e1093,e635,e634,e634',↓mk20,cl22,qf5,qkx,qls,qcs,a1,a3,h0,q1,q2,q3,hl,bne]
      ·have a3:(qba (qfx b h t) i d).1=(qba b i d).1:=by rw[a2,if_neg (by simp[q1,q2,q3])]
       simp[qfS,Fr.ofArgs,e1093,e635,e634,e634',↓mk20,cl22,qf5,qkx,qls,qcs,a1,a3,h0,q1,q2,q3,hl,bne]
     ·have a3:(qba (qfx b h t) i d).1=(qba b i d).1:=by rw[a2,if_neg (by simp[q1,q2])]
      simp[qfS,Fr.ofArgs,e1093,e635,e634,e634',↓mk20,cl22,qf5,qkx,qls,qcs,a1,a3,h0,q1,q2,hl,bne]
    ·have a3:(qba (qfx b h t) i d).1=(qba b i d).1:=by rw[a2,if_neg (by simp[q1])]
     have f1:=qew q1
     simp[qfS,Fr.ofArgs,e1093,e635,e634,e634',↓mk20,cl22,qf5,qkx,qls,qcs,a1,a3,h0,q1,f1,hl,bne]
   ·have a2:=qz7 b h t i d h0
    have f0:=qew h0
    simp[qfS,Fr.ofArgs,e1093,e635,e634,e634',↓mk20,cl22,qf5,qkx,qls,qcs,a1,a2,h0,f0,hl,bne]
  ·have f0:=qew he
   simp[qfS,Fr.ofArgs,e1093,e635,he,f0,hl,bne]
theorem qBI {xs:List DV} {x:ABooks} (e:DV.a xs=x.dv) (h:qan ABooks.ty xs):qan ABooks.ty x.cells:=by
 have:xs=x.cells:=DV.a.inj e
 rw[←this];exact h
end Go.Sim
end
end
