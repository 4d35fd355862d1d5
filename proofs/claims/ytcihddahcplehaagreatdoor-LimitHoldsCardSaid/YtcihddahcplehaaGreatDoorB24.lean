/- Part 24 of the proof: CbAoZ, CbAp1, CbAp3, CbH1, CbU25, CbH2, CbH3, CbH4, CbH5, CbH6, CbH7, CbH8, CbH9, CbHa, CbBq, CbXe, CbHb, CbHc, CbHd, CbHe, CbHf, CbN0, CbV25N, CbN1, CbN2, CbN3, CbP2, CbP3, CbN4, CbN5, CbP4, CbP5, CbP6, CbAp2, CbAp4, CbAp5, CbAp6, CbAp7, CbV25H, CbJ2, CbJ3, CbJ4, CbGe, CbO1, CbO0, CbKn, CbAp8, CbAp9, CbHg, CbApa. -/
import Derived.Test.YtcihddahcplehaaGreatDoorB20
import Derived.Test.YtcihddahcplehaaGreatDoorB21
import Derived.Test.YtcihddahcplehaaGreatDoorB22
import Derived.Test.YtcihddahcplehaaGreatDoorB23
import Derived.Test.YtcihddahcplehaaGreatDoorB18
import Derived.Test.YtcihddahcplehaaGreatDoorB6
import Derived.Test.YtcihddahcplehaaGreatDoorB2
import Derived.Test.YtcihddahcplehaaGreatDoorB7
import Derived.Test.YtcihddahcplehaaGreatDoorB8
import Derived.KernelRfl
section
namespace Go.Sim
set_option maxRecDepth 100000
structure HHand (T:Tab):Prop where
 a679:qai T 679 qqH
 a859:qai T 859 qof
 a860:qai T 860 qqs
 a106:qai T 106 qok
 a177:qai T 177 qs6
 a1103:qai T 1103 qsF
 a1101:qai T 1101 qpp
theorem qB2 (T:Tab) (hS:HS T):qai T 537 qpg:=qat (hS 537 qly rfl) qIi fun _=>qaq
theorem qFQ (T:Tab) (hS:HS T):qai T 504 qrR:=qat (hS 504 qjB rfl) qHo fun _=>qak (qB2 T hS) (qaq)
theorem qHV (T:Tab) (hS:HS T):qai T 539 qoW:=qat (hS 539 qjf rfl) qEn fun _=>qaq
theorem qnE (T:Tab) (hS:HS T):qai T 540 qkz:=qat (hS 540 qk4 rfl) qIj fun _=>qaq
theorem qtB (T:Tab) (hS:HS T):qai T 596 qrg:=qat (hS 596 qls rfl) qEG fun _=>qaq
theorem qA9 (T:Tab) (hS:HS T):qai T 541 qrV:=qat (hS 541 qkq rfl) qAn fun _=>qak (qnE T hS) (qak (qtB T hS) (qaq))
theorem qDE (T:Tab) (hS:HS T):qai T 506 qo3:=qat (hS 506 qkG rfl) qLb fun _=>qak (qHV T hS) (qak (qnE T hS) (qak (qA9 T hS) (qaq)))
theorem qh6 (T:Tab) (hS:HS T):qai T 544 qhe:=qat (hS 544 qgM rfl) qBP fun _=>qaq
theorem qAz (T:Tab) (hS:HS T) (hH:HHand T):qai T 545 qpS:=qat (hS 545 qjK rfl) qGn fun _=>qak hH.a106 (qak (qh6 T hS) (qaq))
theorem qmd (T:Tab) (hS:HS T):qai T 598 qi7:=qat (hS 598 qlz rfl) qJu fun _=>qaq
theorem qvx (T:Tab) (hS:HS T):qai T 603 qm3:=qat (hS 603 qiY rfl) qBp fun _=>qaq
theorem qD5 (T:Tab) (hS:HS T):qai T 546 qq1:=qat (hS 546 qjs rfl) qJf fun _=>qak (qmd T hS) (qak (qvx T hS) (qaq))
theorem qBc (T:Tab) (hS:HS T) (hH:HHand T):qai T 508 qrS:=qat (hS 508 qkd rfl) qGQ fun _=>qak (qh6 T hS) (qak (qAz T hS hH) (qak (qD5 T hS) (qaq)))
theorem qIv (T:Tab) (hS:HS T):qai T 685 qo8:=qat (hS 685 qgo rfl) qF2 fun _=>qaq
theorem qF5 (T:Tab) (hS:HS T):qai T 607 qr3:=qat (hS 607 qgv rfl) qFr fun _=>qak (qIv T hS) (qaq)
theorem qEq (T:Tab) (hS:HS T):qai T 549 qpn:=qat (hS 549 qjS rfl) qFz fun _=>qak (qh6 T hS) (qak (qF5 T hS) (qaq))
theorem qBH (T:Tab) (hS:HS T):qai T 550 qop:=qat (hS 550 qle rfl) qCe fun _=>qaq
theorem qHd (T:Tab) (hS:HS T):qai T 510 qsE:=qat (hS 510 qlA rfl) qJr fun _=>qak (qEq T hS) (qak (qBH T hS) (qaq))
theorem qJi (T:Tab) (hS:HS T):qai T 551 qrp:=qat (hS 551 qjp rfl) qGi fun _=>qak (qh6 T hS) (qaq)
theorem quw (T:Tab) (hS:HS T):qai T 552 qnO:=qat (hS 552 qkR rfl) qDP fun _=>qaq
theorem qH0 (T:Tab) (hS:HS T):qai T 511 qqi:=qat (hS 511 qlo rfl) qII fun _=>qak (qJi T hS) (qak (quw T hS) (qaq))
theorem qFj (T:Tab) (hS:HS T):qai T 595 qrH:=qat (hS 595 qk6 rfl) qAh fun _=>qaq
theorem qz2 (T:Tab) (hS:HS T):qai T 538 qpw:=qat (hS 538 qkf rfl) qKW fun _=>qak (qh6 T hS) (qak (quw T hS) (qak (qFj T hS) (qaq)))
theorem qDO (T:Tab) (hS:HS T):qai T 597 qq6:=qat (hS 597 qku rfl) qFI fun _=>qaq
theorem qKa (T:Tab) (hS:HS T):qai T 542 qqB:=qat (hS 542 qjD rfl) qIQ fun _=>qak (qDO T hS) (qaq)
theorem qzT (T:Tab) (hS:HS T):qai T 513 qpe:=qat (hS 513 qkZ rfl) qAl fun _=>qaq
theorem qwe (T:Tab) (hS:HS T):qai T 599 qlL:=qat (hS 599 qlu rfl) qzp fun _=>qaq
theorem qzM (T:Tab) (hS:HS T):qai T 676 qqF:=qat (hS 676 qjL rfl) qA5 fun _=>qaq
theorem qzA (T:Tab) (hS:HS T):qai T 600 qoZ:=qat (hS 600 qkw rfl) qHf fun _=>qak (qzM T hS) (qaq)
theorem qHh (T:Tab) (hS:HS T) (hH:HHand T):qai T 769 qp1:=qat (hS 769 qjc rfl) qKP fun _=>qak hH.a859 (qak hH.a860 (qaq))
theorem qzm (T:Tab) (hS:HS T) (hH:HHand T):qai T 677 qmv:=qat (hS 677 qjz rfl) qIT fun _=>qak (qHh T hS hH) (qaq)
theorem qtk (T:Tab) (hS:HS T):qai T 678 qmX:=qat (hS 678 qkM rfl) qKS fun _=>qaq
theorem qKL (T:Tab) (hS:HS T) (hH:HHand T):qai T 601 qsy:=qat (hS 601 qkI rfl) qGw fun _=>qak (qmd T hS) (qak (qzm T hS hH) (qak (qtk T hS) (qaq)))
theorem qHe (T:Tab) (hS:HS T) (hH:HHand T):qai T 602 qsg:=qat (hS 602 qkl rfl) qDS fun _=>qak (qmd T hS) (qak (qzm T hS hH) (qak (qtk T hS) (qaq)))
theorem qHN (T:Tab) (hS:HS T) (hH:HHand T):qai T 543 qoz:=qat (hS 543 qjV rfl) qEI fun _=>qak (qzT T hS) (qak (qh6 T hS) (qak (qmd T hS) (qak (qwe T hS) (qak (qzA T hS) (qak (qKL T hS hH) (qak (qHe T hS hH) (qaq)))))))
theorem qC3 (T:Tab) (hS:HS T):qai T 1094 qqA:=qat (hS 1094 qg4 rfl) qDB fun _=>qaq
theorem qHQ (T:Tab) (hS:HS T):qai T 950 qx3:=qn4 (hS 950 qg9 rfl) qIU rfl fun _=>qaq
theorem qHX (T:Tab) (hS:HS T):qai T 919 qoB:=qat (hS 919 qf4 rfl) qCL fun _=>qak (qHQ T hS) (qaq)
theorem qEr (T:Tab) (hS:HS T):qai T 1095 qpf:=qat (hS 1095 qgY rfl) qHG fun _=>qak (qHX T hS) (qaq)
theorem qH2 (T:Tab) (hS:HS T):qai T 1096 qqI:=qat (hS 1096 qgU rfl) qFJ fun _=>qaq
theorem qIo (T:Tab) (hS:HS T):qai T 1090 qoU:=qat (hS 1090 qha rfl) qKI fun _=>qak (qC3 T hS) (qak (qEr T hS) (qak (qH2 T hS) (qaq)))
theorem qtO (T:Tab) (hS:HS T):qai T 683 qnI:=qat (hS 683 qh3 rfl) qFm fun _=>qaq
theorem qBZ (T:Tab) (hS:HS T):qai T 684 qsz:=qat (hS 684 qjM rfl) qHc fun _=>qak (qtO T hS) (qaq)
theorem qIr (T:Tab) (hS:HS T):qai T 1023 qog:=qat (hS 1023 qix rfl) qzH fun _=>qak (qvx T hS) (qak (qtO T hS) (qaq))
theorem qJo (T:Tab) (hS:HS T) (hH:HHand T):qai T 1100 qot:=qat (hS 1100 qjR rfl) qHk fun _=>qak (qnE T hS) (qak (qwe T hS) (qak (qBZ T hS) (qak (qIr T hS) (qak hH.a1101 (qaq)))))
theorem qK0 (T:Tab) (hS:HS T) (hH:HHand T):qai T 1099 qpM:=qat (hS 1099 qkT rfl) qFg fun _=>qak hH.a679 (qak (qJo T hS hH) (qaq))
theorem qKX (T:Tab) (hS:HS T) (hH:HHand T):qai T 1093 qtm:=qat (hS 1093 qhl rfl) qCo fun _=>qak (qFQ T hS) (qak (qDE T hS) (qak (qBc T hS hH) (qak (qHd T hS) (qak (qH0 T hS) (qak (qz2 T hS) (qak (qKa T hS) (qak (qHN T hS hH) (qak (qIo T hS) (qak (qK0 T hS hH) (qaq))))))))))
theorem qAY (T:Tab) (hS:HS T):qai T 920 qId:=qn4 (hS 920 qjP rfl) qAH rfl fun _=>qaq
theorem qED (T:Tab) (hS:HS T):qai T 951 qp6:=qat (hS 951 qla rfl) qKE fun _=>qaq
theorem qAb (T:Tab) (hS:HS T):qai T 952 qqn:=qat (hS 952 qlB rfl) qBk fun _=>qaq
theorem qDy (T:Tab) (hS:HS T):qai T 921 qIq:=qn4 (hS 921 qj5 rfl) qBT rfl fun _=>qak (qED T hS) (qak (qAb T hS) (qaq))
theorem qFs (T:Tab) (hS:HS T):qai T 512 qpU:=qat (hS 512 qlp rfl) qCy fun _=>qaq
theorem qDs (T:Tab) (hS:HS T):qai T 968 qoy:=qat (hS 968 qjF rfl) qKp fun _=>qaq
theorem qBR (T:Tab) (hS:HS T):qai T 954 qpK:=qat (hS 954 qjq rfl) qKZ fun _=>qak (qDs T hS) (qaq)
theorem qKH (T:Tab) (hS:HS T):qai T 923 qyW:=qat (hS 923 qjE rfl) qE1 fun _=>qak (qFs T hS) (qak (qBR T hS) (qaq))
theorem qtF (T:Tab) (hS:HS T):qai T 924 qqK:=qat (hS 924 qkn rfl) qHt fun _=>qaq
theorem qph (T:Tab) (hS:HS T):qai T 969 qkD:=qat (hS 969 qkB rfl) qBg fun _=>qaq
theorem qEJ (T:Tab) (hS:HS T):qai T 985 qqw:=qat (hS 985 qkx rfl) qHK fun _=>qak (qph T hS) (qaq)
theorem qDl (T:Tab) (hS:HS T):qai T 970 qqc:=qat (hS 970 qlx rfl) qDJ fun _=>qak (qph T hS) (qak (qEJ T hS) (qaq))
theorem qAa (T:Tab) (hS:HS T):qai T 955 qr8:=qat (hS 955 qju rfl) qGv fun _=>qak (qph T hS) (qak (qDl T hS) (qaq))
theorem qE5 (T:Tab) (hS:HS T):qai T 925 qxI:=qat (hS 925 qky rfl) qHz fun _=>qak (qtF T hS) (qak (qAa T hS) (qaq))
theorem qBX (T:Tab) (hS:HS T):qai T 259 qyA:=qat (hS 259 qjx rfl) qLd fun _=>qaq
end Go.Sim
end
section
open Go.Sim
attribute [local simp ↓] qep qeN qen qe4 qdI qdy qeG qdl sqK blK lpK qeX qeO qdo qc2 qe3 qdA qdx qdv qeA qeJ qdp qes qdn qc1 qet qd2 qeb qdR qdm qdU qef qc5 qev qdW qdV qd6 qeU qer qdZ qda qdG qdK qdw qdF qdN qea qe9 qc9 qdY qeV qeL qeq qcQ qeZ qdS qcZ qed qdH qdk qeM qeW qdz qdX qem qe7 qdi qc7 qeT qec qe5 qe8 qe2 qee qdh qeD qde qeh qeK qdL qcn qdD qcK qcN qc6 qeI qeC qe1 qeF qeY qd5 qei qeH qd1 qdB qez qey qdC qd8 qew qdO qfo qfJ qfv qfI qfC qfL qfd qfD qfF qfN qfE qfx qgl qf2
attribute [local simp] qb5 qdt qex qdq qd0 qeR qdg qd7 qds qdr qeB rd IOp.adds qaj gh nid rgK rdS qeS qc4 qc8 qdc qeE qfa qdJ qd3 qdP qdf qe6 qdj qdQ qej qek qc3 qdb qdM qdT qe0 qeg qfl qfk qfs qcr qfb qfp qfh qfR qfM qfH qfP
section
namespace Go.Sim
set_option maxRecDepth 10000
set_option maxHeartbeats 4000000
def qGc (r:PV×Bool):Prop:=∃n:Int,r=(.d (I n),false)∧0≤n∧n≤96
theorem qE8 (T:Tab) (hS:HS T) (s:List UInt8) (hs:s.length≤maxLen):Anx qGc (T.val 260 [.s s]):=by
 have hm:=mxl
 rw[qaY T (hS 260 qlb rfl) rfl];simp[qlb,Fr.ofArgs];refine qfj (fun q:Nat×Int=>⟨[(4,.d (I q.1)),(3,.d (I q.2)),(0,.d (.s s))],[]⟩) (fun q=>q.1≤s.length∧0≤q.2∧q.2≤96) (fun q=>s.length-q.1) ?_ (0,0) ⟨Nat.zero_le _,by omega,by omega⟩ (by simp[gc,Fr.keep,qae,qab,qad,PV.refs,gcH,PV.ren,Obj.ren,Heap.obj,Fr.ren,gh])
 rintro B-⟨i,n⟩ ⟨hi,hn0,hn1⟩ hx;simp only at hi hn0 hn1⊢;by_cases hlt:i<s.length
 ·have h1:(i:Int)<s.length:=by omega
  have h3:=wr1 (i:=i) (by omega)
  have hb:=s[i].toNat_lt
  generalize hbe:((s[i].toNat:Nat):Int)=b at *
  have hu : ∀c:Int,∃u:Int,IntKind.u8.wrap (b-c)=u∧0≤u∧u<256∧IntKind.i64.wrap u=u:=by
   intro c;refine⟨_,rfl,?_⟩;rw[IntKind.wrap_u8];have:0≤(b-c)%256∧(b-c)%256<256:=by omega
   exact⟨this.1,this.2,wrI (by omega) (by omega)⟩
  obtain⟨u,u1,u2,u3,u4⟩:=hu 48;obtain⟨v,v1,v2,v3,v4⟩:=hu 65;have w1:IntKind.i64.wrap (10*n)=10*n:=wrI (by omega) (by omega)
  have w2:IntKind.i64.wrap (10*n+u)=10*n+u:=wrI (by omega) (by omega)
  have w3:IntKind.i64.wrap (100*n)=100*n:=wrI (by omega) (by omega)
  have w4:IntKind.i64.wrap (100*n+v)=100*n+v:=wrI (by omega) (by omega)
  have w5:IntKind.i64.wrap (100*n+v+10)=100*n+v+10:=wrI (by omega) (by omega)
  have t1:0≤(10*n+u).tmod 97∧(10*n+u).tmod 97≤96:=by
   rw[Int.tmod_eq_emod_of_nonneg (by omega)];omega
  have t2:0≤(100*n+v+10).tmod 97∧(100*n+v+10).tmod 97≤96:=by
   rw[Int.tmod_eq_emod_of_nonneg (by omega)];omega
  have hx1:=hx (i+1,(10*n+u).tmod 97) ⟨by simp only;omega,t1⟩ (by simp only;omega)
  have hx2:=hx (i+1,(100*n+v+10).tmod 97) ⟨by simp only;omega,t2⟩ (by simp only;omega)
  simp[qoK,↓qhz,↓qh0,h1,hlt,hbe];refine qfU (fun h => ?_) (fun h => ?_)
  ·simp[↓qhz,↓qh0,↓qyy,↓qxo,hlt,h3,hbe,u1,u4,w1,w2];exact hx1 _ _ (by simp[gc,Fr.keep,qae,qab,qad,PV.refs,gcH,PV.ren,Obj.ren,Heap.obj,Fr.ren,gh])
  ·simp[↓qhz,↓qh0,↓qyy,↓qxo,hlt,h3,hbe,v1,v4,w3,w4,w5];exact hx2 _ _ (by simp[gc,Fr.keep,qae,qab,qad,PV.refs,gcH,PV.ren,Obj.ren,Heap.obj,Fr.ren,gh])
 ·have h1 : ¬((i:Int)<s.length):=by omega
  simp[qoK,h1];exact qaz ⟨n,rfl,hn0,hn1⟩
theorem qgt {T:Tab} {f:Nat} {a:List (K×List TA)} (h:qai T f ⟨a,[(none,[.b])]⟩) (d:Nat) {ds:List DV} (hd:qbu d a ds) : ∃b own,T.val f ds=some (.d (.b b),own):=by
 obtain⟨vs,own,h1,h2⟩:=h d ds hd;cases vs with
 |nil=>exact h2.elim
 |cons v vs =>
  cases vs with
  |cons=>exact h2.2.elim
  |nil =>
   obtain⟨cs,c1,c2⟩:=h2.1;obtain⟨w,r,rfl,⟨b,rfl⟩,c3⟩:=qaX c2;obtain rfl:=qct c3;cases c1;exact⟨b,own,h1⟩
theorem qIJ {T:Tab} {f:Nat} {a:List (K×List TA)} (h:qai T f ⟨a,[(none,[.i .i64])]⟩) (d:Nat) {ds:List DV} (hd:qbu d a ds) : ∃n own,T.val f ds=some (.d (I n),own)∧(Lit.int .i64 n).wf=true:=by
 obtain⟨vs,own,h1,h2⟩:=h d ds hd;cases vs with
 |nil=>exact h2.elim
 |cons v vs =>
  cases vs with
  |cons=>exact h2.2.elim
  |nil =>
   obtain⟨cs,c1,c2⟩:=h2.1;obtain⟨w,r,rfl,⟨b,rfl,hw⟩,c3⟩:=qaX c2;obtain rfl:=qct c3;cases c1;exact⟨b,own,h1,hw⟩
theorem qkk {d:Nat} {s:List UInt8} (hs:s.length≤maxLen):HsK d (none,[.s]) (.s s):=⟨[.s s],rfl,⟨s,rfl,hs⟩,trivial⟩
theorem qfS {d:Nat} {n:Int} (h:(Lit.int .i64 n).wf=true):HsK d (none,[.i .i64]) (I n):=⟨[I n],rfl,⟨n,rfl,h⟩,trivial⟩
theorem qr4 : ∀q:Nat,q<10→∃c:UInt8,List.drop q (48::List.take q [49,50,51,52,53,54,55,56,57])=[c]
 | 0,_=>⟨_,rfl⟩|1,_=>⟨_,rfl⟩|2,_=>⟨_,rfl⟩|3,_=>⟨_,rfl⟩|4,_=>⟨_,rfl⟩|5,_=>⟨_,rfl⟩|6,_=>⟨_,rfl⟩|7,_=>⟨_,rfl⟩|8,_=>⟨_,rfl⟩|9,_=>⟨_,rfl⟩
 |n+10,h=>absurd h (by omega)
def qD8 (r:PV×Bool):Prop:=∃(w:List UInt8) (e:Int),r=(.t [.d (.s w),.d (I e)],false)∧w.length≤maxLen∧(Lit.int .i64 e).wf=true
theorem qyn (T:Tab) (hS:HS T) (s:List UInt8) (hs:s.length≤maxLen):Anx qD8 (T.val 177 [.s s]):=by
 have hm:=mxl
 obtain⟨b,own,e259⟩:=qgt (qBX T hS) 0 (ds:=[.s s]) ⟨qkk hs,trivial⟩;rw[qaY T (hS 177 qg5 rfl) rfl];by_cases g1:s.length<1
 ·have g1':s=[]:=List.length_eq_zero_iff.1 (by omega)
  subst g1';simp[qg5,Fr.ofArgs];exact qaz ⟨_,_,rfl,by simp,by decide⟩
 have g1' : ¬((s.length:Int)<1):=by omega
 by_cases g2:46<s.length
 ·have g2':(46:Int)<s.length:=by omega
  simp[qg5,Fr.ofArgs,g1',g2'];exact qaz ⟨_,_,rfl,by simp,by decide⟩
 have g2' : ¬((46:Int)<s.length):=by omega
 cases b with
 |false =>
  simp[qg5,Fr.ofArgs,g1',g2',e259];exact qaz ⟨_,_,rfl,by simp,by decide⟩
 |true =>
  obtain⟨r,e260,n,rfl,n0,n1⟩:=qE8 T hS (s++[48,48]) (by rw[zzp];simp;omega)
  have k1:IntKind.i64.wrap (98-n)=98-n:=wrI (by omega) (by omega)
  obtain⟨q,hq,q1⟩ : ∃q:Nat,q<10∧(98-n).tdiv 10=q:=by
   rw[Int.tdiv_eq_ediv_of_nonneg (by omega)]
   exact⟨((98-n)/10).toNat,by omega,by omega⟩
  obtain⟨p,hp,p1⟩ : ∃p:Nat,p<10∧(98-n).tmod 10=p:=by
   rw[Int.tmod_eq_emod_of_nonneg (by omega)]
   exact⟨((98-n)%10).toNat,by omega,by omega⟩
  have q2:IntKind.i64.wrap (q:Int)=q:=wrI (by omega) (by omega)
  have q3:IntKind.i64.wrap ((q:Int)+1)=(q:Int)+1:=wrI (by omega) (by omega)
  have p3:IntKind.i64.wrap ((p:Int)+1)=(p:Int)+1:=wrI (by omega) (by omega)
  obtain⟨c,hc⟩:=qr4 q hq;obtain⟨c2,hc2⟩:=qr4 p hp;have b1:(q:Int)+1≤10:=by omega
  have m1:min q 9+1-q=1:=by omega
  have m2:min p 9+1-p=1:=by omega
  have b2:(p:Int)+1≤10:=by omega
  have b3:(q:Int)≤(q:Int)+1:=by omega
  have b4:(p:Int)≤(p:Int)+1:=by omega
  have l1:s.length+2<4611686018427387904:=by omega
  have l2:s.length+1<4611686018427387904:=by omega
  have l3:s.length+1+1<4611686018427387904:=by omega
  have b5:(0:Int)≤(q:Int)+1:=by omega
  have b6:(0:Int)≤(p:Int)+1:=by omega
  simp[qg5,Fr.ofArgs,g1',g2',e259,e260,k1,q1,q2,q3,p1,p3,hc,hc2,b1,b2,b3,b4,b5,b6,l1,l2,↓qbq,↓qbr,↓qba,↓qbc,qbg,↓qbb,↓qbe,↓qbO,qa5,writeS,touchS,qau,qaQ,chg,runs,qaO,qa3,IOp.okD,Nat.testBit];exact qaz ⟨_,_,rfl,by simp;omega,by decide⟩
def qI2 (r:PV×Bool):Prop:=∃(w:List UInt8),r=(.d (.s w),false)∧w.length≤maxLen
theorem qD1 (T:Tab) (hS:HS T) (id:Int) (_hid:(Lit.int .i64 id).wf=true):Anx qI2 (T.val 106 [I id]):=by
 have hm:=mxl
 rw[qaY T (hS 106 qhT rfl) rfl];by_cases g1:id<1000
 ·simp[qhT,Fr.ofArgs,g1];exact qaz ⟨_,rfl,by simp⟩
 by_cases g2:99999999<id
 ·simp[qhT,Fr.ofArgs,g1,g2];exact qaz ⟨_,rfl,by simp⟩
 simp[qhT,Fr.ofArgs,g1,g2];refine qfj (fun q:Nat×Int×List UInt8=>⟨[(4,.d (I q.1)),(3,.d (.s q.2.2)),(0,.d (I q.2.1))],[]⟩) (fun q=>q.1≤8∧0≤q.2.1∧q.2.1≤99999999∧q.2.2.length=q.1) (fun q=>8-q.1) ?_ (0,id,[]) ⟨by simp only;omega,by simp only;omega,by simp only;omega,rfl⟩ (by simp[gc,Fr.keep,qae,qab,qad,PV.refs,gcH,PV.ren,Obj.ren,Heap.obj,Fr.ren,gh])
 rintro B-⟨i,m,s⟩ ⟨hi,hn0,hn1,hl⟩ hx;simp only at hi hn0 hn1 hl⊢;by_cases hlt:i<8
 ·have h1:(i:Int)<8:=by omega
  have h3:=wr1 (i:=i) (by omega)
  obtain⟨p,hp,p1⟩ : ∃p:Nat,p<10∧m.tmod 10=p:=by
   rw[Int.tmod_eq_emod_of_nonneg (by omega)]
   exact⟨(m%10).toNat,by omega,by omega⟩
  have hq:0≤m.tdiv 10∧m.tdiv 10≤99999999:=by
   rw[Int.tdiv_eq_ediv_of_nonneg (by omega)];omega
  have q1:IntKind.i64.wrap (m.tdiv 10)=m.tdiv 10:=wrI (by omega) (by omega)
  have p3:IntKind.i64.wrap ((p:Int)+1)=(p:Int)+1:=wrI (by omega) (by omega)
  obtain⟨c2,hc2⟩:=qr4 p hp;have b2:(p:Int)+1≤10:=by omega
  have b4:(p:Int)≤(p:Int)+1:=by omega
  have b6:(0:Int)≤(p:Int)+1:=by omega
  have m2:min p 9+1-p=1:=by omega
  have l2:1+s.length<4611686018427387904:=by omega
  have hx1:=hx (i+1,m.tdiv 10,c2::s) ⟨by simp only;omega,hq.1,hq.2,by simp[hl]⟩ (by simp only;omega)
  simp[qrA,h1,h3,p1,p3,q1,hc2,b2,b4,b6,l2];exact hx1 _ _ (by simp[gc,Fr.keep,qae,qab,qad,PV.refs,gcH,PV.ren,Obj.ren,Heap.obj,Fr.ren,gh])
 ·have h1 : ¬((i:Int)<8):=by omega
  have l2:s.length+1+1<4611686018427387904:=by omega
  have l3:2+s.length<4611686018427387904:=by omega
  obtain⟨r,e177,w,e,rfl,hw,he⟩:=qyn T hS (67::66::s) (by simp;omega)
  simp[qrA,h1,e177,l3];exact qaz ⟨w,rfl,hw⟩
theorem qEa (T:Tab) (hS:HS T):qai T 177 qs6:=by
 intro d ds hd;cases ds with
 |nil=>exact hd.elim
 |cons x ds =>
  cases ds with
  |cons=>exact hd.2.elim
  |nil =>
   obtain⟨cs,c1,c2⟩:=hd.1;obtain⟨w,r,rfl,⟨s,rfl,hs⟩,c3⟩:=qaX c2;obtain rfl:=qct c3;cases c1;obtain⟨r,e,w,n,rfl,hw,hn⟩:=qyn T hS s hs;exact⟨[.s w,I n],false,e,qkk hw,qfS hn,trivial⟩
theorem qAE (T:Tab) (hS:HS T):qai T 106 qok:=by
 intro d ds hd;cases ds with
 |nil=>exact hd.elim
 |cons x ds =>
  cases ds with
  |cons=>exact hd.2.elim
  |nil =>
   obtain⟨cs,c1,c2⟩:=hd.1;obtain⟨w,r,rfl,⟨n,rfl,hn⟩,c3⟩:=qaX c2;obtain rfl:=qct c3;cases c1;obtain⟨r,e,w,rfl,hw⟩:=qD1 T hS n hn;exact⟨[.s w],false,e,qkk hw,trivial⟩
end Go.Sim
end
section
namespace Go.Sim
set_option maxRecDepth 10000
set_option maxHeartbeats 4000000
def qgG (o:Nat):List DV→PV
 | []=>.d (.l K0 [] true)
 | [_]=>.r o K0 0 1 true
 |l=>.r o K0 0 l.length false
def qgz:List DV→Heap
 | []=>[]
 |l=>[some (.sl K0 0 l)]
section
variable {R : Type} {H : Heap} {id : Nat} {k : K} {b : Nat} {q : PV → Heap → Option R}
theorem qho {o off len:Nat} {k':K}:bo2 (qcM H id k b (.r o k' off len true) []) (.h q)=match H.obj o with
  |some (.sl k'' _ es)=>chk ((K.eq k k'&&K.eq k k''&&decide (off+len≤es.length)&&decide (len*b≤2^47))=true) (.h (q (.r o k' off len true) H))
  | _=>none:=by
 simp only[qcM,qcl,qaW,qb5,if_true,chk,List.length_nil,Nat.add_zero,List.isEmpty_nil,Bool.or_true];cases H.obj o with
 |none=>rfl
 |some x =>
  cases x with
  |sl k'' ro es =>
   simp only;split<;>rfl
  | _=>rfl
end
def IsL (m:Nat) (r:PV×Bool):Prop:=∃(l:List DV) (own:Bool),r=(.d (.l K0 l false),own)∧l.length≤m∧∀x∈l,∃n,x=I n∧(Lit.int .i64 n).wf=true
theorem qj0 {i:Int} {l:List DV} (wi:(Lit.int .i64 i).wf=true) (hw : ∀x∈l,∃n,x=I n∧(Lit.int .i64 n).wf=true) : ∀x∈I i::l,∃n,x=I n∧(Lit.int .i64 n).wf=true:=by
 intro x hx;rcases List.mem_cons.1 hx with rfl|hx
 ·exact⟨i,rfl,wi⟩
 ·exact hw x hx
theorem qtp (T:Tab) (hS:HS T) {es:List DV} {t:Bool} {d:Nat} (hX:HsK d (K0,[.l (K1 4) 3518437208883 tGl]) (.l (K1 4) es t)) (n:Int) (hn:(Lit.int .i64 n).wf=true) :
  ∃i p k s b own,T.val 540 [.l (K1 4) es t,I n]=some (.t [.d (AGl.dv ⟨i,p,k,s⟩),.d (.b b)],own)∧(Lit.int .i64 i).wf=true∧(Lit.int .i64 p).wf=true:=by
 obtain⟨vs,own,h1,h2⟩:=qnE T hS d [.l (K1 4) es t,I n] ⟨hX,qfS hn,trivial⟩;cases vs with
 |nil=>exact h2.elim
 |cons v vs =>
  cases vs with
  |nil=>exact h2.2.elim
  |cons w vs =>
   cases vs with
   |cons=>exact h2.2.2.elim
   |nil =>
    obtain⟨⟨cs,c1,c2⟩,⟨ds,d1,d2⟩,-⟩:=h2;obtain⟨w1,r1,rfl,⟨i,rfl,q1⟩,c3⟩:=qaX c2;obtain⟨w2,r2,rfl,⟨p,rfl,q2⟩,c4⟩:=qaX c3;obtain⟨w3,r3,rfl,⟨k,rfl,q3⟩,c5⟩:=qaX c4;obtain⟨w4,r4,rfl,⟨s,rfl,q4⟩,c6⟩:=qaX c5;obtain rfl:=qct c6;obtain⟨w5,r5,rfl,⟨b,rfl⟩,d3⟩:=qaX d2;obtain rfl:=qct d3;cases d1;have e:v=AGl.dv ⟨i,p,k,s⟩:=(Option.some.inj c1).symm
    subst e;exact⟨i,p,k,s,b,own,h1,q1,q2⟩
theorem qKQ (T:Tab) (hS:HS T) {es:List DV} {t:Bool} {d:Nat} (hX:HsK d (K0,[.l (K1 4) 3518437208883 tGl]) (.l (K1 4) es t)) (n:Int) (hn:(Lit.int .i64 n).wf=true):Anx (IsL 40) (T.val 1103 [.l (K1 4) es t,I n]):=by
 obtain⟨i0,p0,k0,s0,b0,own0,e0,wi0,wp0⟩:=qtp T hS hX n hn;rw[qaY T (hS 1103 qjv rfl) rfl];simp[qjv,Fr.ofArgs,e0];refine qfj (fun q:List DV×Bool×(Int×Int×Int×List UInt8)=>⟨[(7,.d (.b q.2.1)),(6,.p 0 0 0),(5,qgG 1 q.1),(0,.d (.l (K1 4) es t))],some (.box (K1 4) (.d (AGl.dv ⟨q.2.2.1,q.2.2.2.1,q.2.2.2.2.1,q.2.2.2.2.2⟩)))::qgz q.1⟩) (fun q=>q.1.length≤40∧(∀x∈q.1,∃n,x=I n∧(Lit.int .i64 n).wf=true)∧(Lit.int .i64 q.2.2.1).wf=true∧(Lit.int .i64 q.2.2.2.1).wf=true) (fun q=>40-q.1.length) ?_ ([],b0,i0,p0,k0,s0) ⟨by simp,by simp,wi0,wp0⟩ (by simp[gc,Fr.keep,qae,qab,qad,PV.refs,qaf,gcH,qag,Obj.refs,PV.ren,Obj.ren,Heap.obj,Fr.ren,gh,zzd,qgG,qgz])
 rintro B-⟨l,b,i,p,k,s⟩ ⟨hl,hw,wi,wp⟩ hx;simp only at hl hw wi wp⊢;cases b with
 |false =>
  match l,hl,hw with
  | [],hl,hw =>
   simp[qhb,qgG,qgz];exact qaz ⟨[],_,rfl,by simp,hw⟩
  | [x],hl,hw =>
   simp[qhb,qgG,qgz];exact qaz ⟨[x],_,rfl,by simp,hw⟩
  |x::y::l,hl,hw =>
   simp[qhb,qgG,qgz];exact qaz ⟨x::y::l,_,rfl,hl,hw⟩
 |true =>
  obtain⟨i2,p2,k2,s2,b2,own2,e2,wi2,wp2⟩:=qtp T hS hX p wp;by_cases g40:l.length<40
  ·have hx':=hx (I i::l,b2,i2,p2,k2,s2) ⟨by simp only[zzn];omega,qj0 wi hw,wi2,wp2⟩ (by simp only[zzn];omega)
   clear hx
   match l,hl,hw,hx',g40 with
   | [],hl,hw,hx',g40 =>
    simp only[qgG,qgz] at hx'⊢;simp[qhb,↓qho];refine qfU (fun h => ?_) (fun h => ?_)
    ·simp;exact qaz ⟨[I i],_,rfl,by simp,qj0 wi hw⟩
    ·simp[e2];exact hx' _ _ (by simp[gc,Fr.keep,qae,qab,qad,PV.refs,qaf,gcH,qag,Obj.refs,PV.ren,Obj.ren,Heap.obj,Fr.ren,gh,zzd])
   | [x],hl,hw,hx',g40 =>
    simp only[qgG,qgz] at hx'⊢;simp[qhb];refine qfU (fun h => ?_) (fun h => ?_)
    ·simp;exact qaz ⟨[I i,x],_,rfl,by simp,qj0 wi hw⟩
    ·simp[e2];exact hx' _ _ (by simp[gc,Fr.keep,qae,qab,qad,PV.refs,qaf,gcH,qag,Obj.refs,PV.ren,Obj.ren,Heap.obj,Fr.ren,gh,zzd])
   |x::y::l,hl,hw,hx',g40 =>
    simp only[qgG,qgz] at hx'⊢;have g1:(l.length:Int)+1+1<40:=by simp only[zzn] at g40;omega
    have g2:(1+(l.length+1+1))*8≤140737488355328:=by simp only[zzn] at g40;omega
    have g3:l.length+1+1+1=1+(l.length+1+1):=by omega
    have ht:l.take l.length=l:=List.take_of_length_le (zzt _)
    have tk:List.take (1+(l.length+1+1)) (I i::x::y::l)=I i::x::y::l:=List.take_of_length_le (by simp only[zzn];omega)
    simp[qhb,g1,g2,ht];refine qfU (fun h => ?_) (fun h => ?_)
    ·simp[g3];exact qaz ⟨I i::x::y::l,_,by rw[tk],by simp only[zzn] at g40⊢;omega,qj0 wi hw⟩
    ·simp[e2];exact hx' _ _ (by simp[gc,Fr.keep,qae,qab,qad,PV.refs,qaf,gcH,qag,Obj.refs,PV.ren,Obj.ren,Heap.obj,Fr.ren,gh,zzd];omega)
  ·match l,hl,hw,g40 with
   | [],hl,hw,g40=>exact absurd (by simp) g40
   | [x],hl,hw,g40=>exact absurd (by simp) g40
   |x::y::l,hl,hw,g40 =>
    have g1 : ¬((l.length:Int)+1+1<40):=by simp only[zzn] at g40;omega
    simp[qhb,qgG,qgz,g1];exact qaz ⟨x::y::l,_,rfl,hl,hw⟩
theorem qww {d m:Nat} {r:PV×Bool} (h:IsL m r) (hm:m≤9223372036854775807) : ∃vs own,r=(qaZ (vs.map .d),own)∧qbu d [(K0,[.l K0 9223372036854775807 [.i .i64]])] vs:=by
 obtain⟨l,own,rfl,hl,hw⟩:=h;have hmx:maxLen=9223372036854775807:=rfl
 refine⟨[.l K0 l false],own,rfl,⟨[.l K0 l false],rfl,⟨l,false,rfl,by omega,by omega,fun e he => ?_⟩,trivial⟩,trivial⟩
 obtain⟨n,rfl,hn⟩:=hw e he;exact⟨[I n],rfl,⟨n,rfl,hn⟩,trivial⟩
theorem glI {d:Nat} {ds:List DV} (hd:qbu d [(K0,[.l (K1 4) 3518437208883 tGl]),(K0,[.i .i64])] ds) : ∃es t n,ds=[.l (K1 4) es t,I n]∧HsK d (K0,[.l (K1 4) 3518437208883 tGl]) (.l (K1 4) es t)∧(Lit.int .i64 n).wf=true∧es.length≤3518437208883:=by
 cases ds with
 |nil=>exact hd.elim
 |cons x ds =>
  cases ds with
  |nil=>exact hd.2.elim
  |cons y ds =>
   cases ds with
   |cons=>exact hd.2.2.elim
   |nil =>
    obtain⟨h1,⟨cs,c1,c2⟩,-⟩:=hd;obtain⟨w5,r5,rfl,⟨n,rfl,hn⟩,d3⟩:=qaX c2;obtain rfl:=qct d3;cases c1;obtain⟨ds,q1,q2⟩:=id h1;obtain⟨w,r,rfl,⟨es,t,rfl,h3,h4,h5⟩,d3⟩:=qaX q2;obtain rfl:=qct d3;cases q1;exact⟨es,t,n,rfl,h1,hn,h4⟩
theorem quY (T:Tab) (hS:HS T):qai T 1103 qsF:=by
 intro d ds hd;obtain⟨es,t,n,rfl,h1,hn,_⟩:=glI hd;obtain⟨r,e,hr⟩:=qKQ T hS h1 n hn;obtain⟨vs,own,rfl,hv⟩:=qww (d:=d) hr (by omega)
 exact⟨vs,own,e,hv⟩
end Go.Sim
end
end
section
open Go.Sim
attribute [local simp ↓] qep qeN qen qe4 qdI qdy qeG qdl sqK blK lpK qeX qeO qdo qc2 qe3 qdA qdx qdv qeA qeJ qdp qes qdn qc1 qet qd2 qeb qdR qdm qdU qef qc5 qev qdW qdV qd6 qeU qer qdZ qda qdG qdK qdw qdF qdN qea qe9 qc9 qdY qeV qeL qeq qcQ qeZ qdS qcZ qed qdH qdk qeM qeW qdz qdX qem qe7 qdi qc7 qeT qec qe5 qe8 qe2 qee qdh qeD qde qeh qeK qdL qcn qdD qcK qcN qc6 qeI qeC qe1 qeF qeY qd5 qei qeH qd1 qdB qez qey qdC qd8 qew qdO
attribute [local simp] qb5 qdt qex qdq qd0 qeR qdg qd7 qds qdr qeB rd IOp.adds qaj gh nid rgK rdS qeS qc4 qc8 qdc qeE qfa qdJ qd3 qdP qdf qe6 qdj qdQ qej qek qc3 qdb qdM qdT qe0 qeg
section
namespace Go.Sim
set_option maxRecDepth 10000
set_option maxHeartbeats 2000000
def qh4 {α:Type} (p:α→Bool) (l:List α):Int:=match l.findIdx? p with|some j=>(j:Int)|none=>-1
theorem qvn {α R:Type} (p:α→Bool) (r:Nat→Option R) (done:Unit→Option R) (step:Nat→Unit→α→(Unit→Option R)→Option R) (hs : ∀i b x c,step i b x c=if p x=true then r i else c ()) : ∀(i:Nat) (ls:List α),rounds step done i () ls=match ls.findIdx? p with|some j=>r (i+j)|none=>done ()
 |i,[]=>by simp[rounds]
 |i,x::l=>by
  rw[rounds,hs,qvn p r done step hs (i+1) l,List.findIdx?_cons];cases h:p x with
  |true=>simp
  |false =>
   simp only[zzg,if_false];cases l.findIdx? p with
   |none=>simp
   |some j=>simp;congr 1;omega
section
variable {α : Type}
theorem qEU (T:Tab) (g:Nat) (q:K) (dv:α→DV) (p:α→Bool) (c:PV) (cs:List PV) (H0:Heap) (hH:Cl H0) (hc : ∀r∈PV.refsL (c::cs),r<H0.length) (l:List α) (hv : ∀x∈l,T.ref g (.d (dv x)::c::cs) H0=some (.d (.b (p x)),H0)) (s:Bool) (hn:l.length≤maxLen) {k:KC (PV×Heap)} {r:Nat→Option (PV×Heap)} {fr:Fr} {H:Heap}
  (hr : ∀(j:Nat) fr J,fr.get 4 = .d (I j)→qaE fr=[]→k .ret fr (H0++J)=r j)
  (h0:gc [0,1,7,8] H0.length ⟨fr,H⟩=⟨[(8,.d (I 0)),(7,.d (I l.length)),(1,.f g (c::cs)),(0,.d (.l q (l.map dv) s))],H0⟩) :
  kC T.env H0.length fr H (.h (.loop [0,1,7,8] (qnd q),k))=match l.findIdx? p with|some j=>r j|none=>k (.exit 0) [(9,.d (.b false)),(8,.d (I l.length)),(7,.d (I l.length)),(1,.f g (c::cs)),(0,.d (.l q (l.map dv) s))] H0:=by
 rw[qcc l (fun i _=>⟨[(8,.d (I i)),(7,.d (I l.length)),(1,.f g (c::cs)),(0,.d (.l q (l.map dv) s))],H0⟩) (fun _ _=>True) (fun i _ x c=>if p x=true then r i else c ()) (fun _=>k (.exit 0) [(9,.d (.b false)),(8,.d (I l.length)),(7,.d (I l.length)),(1,.f g (c::cs)),(0,.d (.l q (l.map dv) s))] H0) ?_ ?_ h0 trivial]
 ·rw[qvn p r _ _ (fun _ _ _ _=>rfl)]
  simp only[Nat.zero_add]
 ·intro B _ _ _;simp[qnd]
 ·intro B _ i _ hi _ cc hcc;have hm:=mxl
  have h1:(i:Int)<l.length:=by omega
  have h3:=wr1 (i:=i) (by omega)
  have he:=hv l[i] (zzs hi)
  simp[qnd,h1,hi,he];repeat' (refine qbs (fun h => ?_) (fun h => ?_)<;>(try simp at h)<;>(try simp[h,h3]))
  ·simpa using hr i _ [] (by simp[Fr.get]) (by simp[qaE,gh])
  ·refine hcc () _ _ trivial ?_;rw[qry _ hH (by simpa[qab,Fr.keep,PV.refs,PV.refsL,gh] using hc)]
   simp[Fr.keep,gh]
theorem qtV (T:Tab) {n:Nat} {q:K} (hF:T.F n=some (qhE q)) (g:Nat) (dv:α→DV) (p:α→Bool) (c:PV) (cs:List PV) (H0:Heap) (hH:Cl H0) (hc : ∀r∈PV.refsL (c::cs),r<H0.length) (l:List α) (hv : ∀x∈l,T.ref g (.d (dv x)::c::cs) H0=some (.d (.b (p x)),H0)) (s:Bool) (hn:l.length≤maxLen) :
  T.ref n [.d (.l q (l.map dv) s),.f g (c::cs)] H0=some (.d (I (qh4 p l)),H0):=by
 rw[qiG T hF rfl];have lp:=fun k r fr H => @qEU α T g q dv p c cs H0 hH hc l hv s hn k r fr H
 simp[qhE,Fr.ofArgs];refine (lp _ (fun j=>some (.d (I j),H0)) _ _ ?_ ?_).trans ?_
 ·intro j fr J h1 h2;simp[h1,h2,qhq,qk9 hH]
 ·rw[qry _ hH (by simpa[qab,Fr.keep,PV.refs,PV.refsL,gh] using hc)]
  simp[Fr.keep,gh]
 ·unfold qh4;cases l.findIdx? p with
  |some j=>rfl
  |none=>simp[qhq,quB hH]
end
end Go.Sim
end
end
section
namespace Go.Sim
def tabU:PT :=
 (.bin 719 qhL (.bin 50 F50 (.bin 19 F19 (.bin 16 F16 (.bin 12 F12 .nil .nil) (.bin 18 F18 .nil .nil)) (.bin 30 F30 (.bin 24 F24 .nil .nil) .nil)) (.bin 683 qh3 (.bin 603 qiY (.bin 59 F59 .nil .nil) (.bin 634 qj2 .nil .nil)) (.bin 716 qkK (.bin 715 qld .nil .nil) .nil))) (.bin 950 qg9 (.bin 918 qnX (.bin 803 qkE (.bin 720 qjh .nil .nil) (.bin 804 qjr .nil .nil)) (.bin 949 qr2 (.bin 919 qf4 .nil .nil) .nil)) (.bin 1094 qg4 (.bin 1090 qha (.bin 1023 qix .nil .nil) .nil) (.bin 1096 qgU (.bin 1095 qgY .nil .nil) .nil))))
end Go.Sim
end
section
open Go.Sim
attribute [local simp ↓] qep qeN qen qe4 qdI qdy qeG qdl sqK blK lpK qeX qeO qdo qc2 qe3 qdA qdx qdv qeA qeJ qdp qes qdn qc1 qet qd2 qeb qdR qdm qdU qef qc5 qev qdW qdV qd6 qeU qer qdZ qda qdG qdK qdw qdF qdN qea qe9 qc9 qdY qeV qeL qeq qcQ qeZ qdS qcZ qed qdH qdk qeM qeW qdz qdX qem qe7 qdi qc7 qeT qec qe5 qe8 qe2 qee qdh qeD qde qeh qeK qdL qcn qdD qcK qcN qc6 qeI qeC qe1 qeF qeY qd5 qei qeH qd1 qdB qez qey qdC qd8 qew qdO qfo
attribute [local simp] qb5 qdt qex qdq qd0 qeR qdg qd7 qds qdr qeB rd IOp.adds qaj gh nid rgK rdS qeS qc4 qc8 qdc qeE qfa qdJ qd3 qdP qdf qe6 qdj qdQ qej qek qc3 qdb qdM qdT qe0 qeg qfl qfk qfs qcr qfb qfp qfh
section
namespace Go.Sim
set_option maxRecDepth 10000
set_option maxHeartbeats 4000000
def AAccount.zero:AAccount:=⟨0,0,0,0,[],[],[]⟩
def AInterest.zero:AInterest:=⟨⟨[],true⟩,false,0,0,false⟩
def AProduct.zero:AProduct:=⟨[],[],[],0,0,0,0,AInterest.zero,AInterest.zero,⟨[],true⟩,⟨[],true⟩⟩
def qi0 (id:Int) (a:AAccount):Bool:=a.Id==id
def qhR (b:ABooks) (id:Int):Option AAccount:=(b.Accounts.l.findIdx? (qi0 id)).bind fun j=>b.Accounts.l[j]?
abbrev HU (T:Tab):Prop:=∀n F,tabU.get n=some F→T.F n=some F
theorem qKR (T:Tab) (hT:HU T) (a:AAccount) (b:ABooks) (id:Int):T.ref 19 [.d a.dv,.p 1 0 0] [some (.box (K1 22) (.d b.dv)),some (.box K0 (.d (I id)))]=some (.d (.b (qi0 id a)),[some (.box (K1 22) (.d b.dv)),some (.box K0 (.d (I id)))]):=by
 rw[qiG T (hT 19 F19 rfl) rfl];have hH:=qt9 (K1 22) K0 b.dv (I id)
 simp[F19,Fr.ofArgs,qhq,qi0];exact (qk9 hH [some (.box (K1 7) (.d a.dv))] _)
theorem qD3 (T:Tab) (hT:HU T) (b:ABooks) (id:Int) (hb:b.ok):T.val 16 [b.dv,I id]=some (.d (I (qh4 (qi0 id) b.Accounts.l)),false):=by
 rw[qaY T (hT 16 F16 rfl) rfl];have e:=qtV T (hT 18 F18 rfl) 19 AAccount.dv (qi0 id) (.p 1 0 0) [] [some (.box (K1 22) (.d b.dv)),some (.box K0 (.d (I id)))] (qt9 _ _ _ _) (by simp[PV.refs,PV.refsL]) b.Accounts.l (fun a _=>qKR T hT a b id) b.Accounts.t (hb.2.2.2.2.2.1).1
 simp[F16,Fr.ofArgs,e]
theorem qy8 (T:Tab) (hT:HU T) (b:ABooks) (id:Int) (hb:b.ok):T.val 12 [b.dv,I id]=some (.t [.d ((qhR b id).getD .zero).dv,.d (.b (qhR b id).isSome)],false):=by
 rw[qaY T (hT 12 F12 rfl) rfl];have e:=qD3 T hT b id hb
 unfold qh4 at e;unfold qhR;cases hf:b.Accounts.l.findIdx? (qi0 id) with
 |none =>
  rw[hf] at e;simp[F12,Fr.ofArgs,e];try rfl
 |some j =>
  rw[hf] at e;have hj:j<b.Accounts.l.length:=(List.findIdx?_eq_some_iff_findIdx_eq.1 hf).1
  simp[F12,Fr.ofArgs,e,hj];try rfl
end Go.Sim
end
section
namespace Go.Sim
set_option maxRecDepth 10000
set_option maxHeartbeats 4000000
def qaS {α β:Type} (f:Nat→β→α→β):Nat→β→List α→β
  | _,b,[]=>b
  |i,b,x::r=>qaS f (i+1) (f i b x) r
theorem qg3 {α β R:Type} (f:Nat→β→α→β) (done:β→Option R) (step:Nat→β→α→(β→Option R)→Option R) (hs : ∀i b x c,step i b x c=c (f i b x)) : ∀(i:Nat) (b:β) (ls:List α),rounds step done i b ls=done (qaS f i b ls)
  |i,b,[]=>rfl
  |i,b,x::l=>by rw[rounds,hs,qaS,qg3 f done step hs (i+1)]
theorem qxn {α β:Type} (f:Nat→β→α→β) (P:Nat→β→Prop) (h : ∀i b x,P i b→P (i+1) (f i b x)) : ∀(l:List α) (i:Nat) (b:β),P i b→P (i+l.length) (qaS f i b l)
  | [],i,b,hb=>hb
  |x::l,i,b,hb=>by
    have:=qxn f P h l (i+1) (f i b x) (h i b x hb)
    rw[zzn,show i+(l.length+1)=i+1+l.length by omega]
    exact this
def frm (l:List AProduct) (b:Int):Int:=match l[b.toNat]? with|some p=>p.From|none=>0
def cAt (l:List AProduct) (nm:List UInt8) (day b:Int) (p:AProduct):Bool:=(p.Name==nm)&&(decide (p.From≤day)&&(decide (b<0)||decide (frm l b<p.From)))
def fAt (l:List AProduct) (nm:List UInt8) (day:Int) (i:Nat) (b:Int) (p:AProduct):Int:=if cAt l nm day b p=true then (i:Int) else b
def bst (l:List AProduct) (nm:List UInt8) (day:Int):Int:=qaS (fAt l nm day) 0 (-1) l
def inB (i:Nat) (b:Int):Prop:=b = -1∨∃j:Nat,b=(j:Int)∧j<i
theorem qxk (l:List AProduct) (nm:List UInt8) (day:Int) (i:Nat) (b:Int) (p:AProduct) (h:inB i b):inB (i+1) (fAt l nm day i b p):=by
  unfold fAt;split
  · exact .inr ⟨i,rfl,by omega⟩
  · rcases h with h|⟨j,h1,h2⟩
    · exact .inl h
    · exact .inr ⟨j,h1,by omega⟩
theorem qDH (l:List AProduct) (nm:List UInt8) (day:Int):inB l.length (bst l nm day):=by
  have:=qxn (fAt l nm day) inB (qxk l nm day) l 0 (-1) (.inl rfl)
  simpa[bst] using this
def atP (l:List AProduct) (nm:List UInt8) (day:Int):Option AProduct:=if bst l nm day<0 then none else l[(bst l nm day).toNat]?
theorem qEt (T:Tab) (l:List AProduct) (t:Bool) (nm:List UInt8) (day:Int) (hn:l.length≤maxLen) {k:KC (PV×Bool)} {fr:Fr} {H:Heap}
    (h0:gc [0,1,2,6,8,11,12,13] 0 ⟨fr,H⟩=⟨[(13,.d (I 0)),(12,.d (I l.length)),(11,.d (.l (K1 19) (l.map AProduct.dv) t)),(8,.d (I (-1))),(6,.p 0 0 0),(2,.d (I day)),(1,.d (.s nm)),(0,.d (.l (K1 19) (l.map AProduct.dv) t))],[some (.box (K1 19) (.d AProduct.zero.dv))]⟩) :
    kC T.env 0 fr H (.h (.loop [0,1,2,6,8,11,12,13] qko,k))=k (.exit 0) [(14,.d (.b false)),(13,.d (I l.length)),(12,.d (I l.length)),(11,.d (.l (K1 19) (l.map AProduct.dv) t)),(8,.d (I (bst l nm day))),(6,.p 0 0 0),(2,.d (I day)),(1,.d (.s nm)),(0,.d (.l (K1 19) (l.map AProduct.dv) t))] [some (.box (K1 19) (.d AProduct.zero.dv))]:=by
  rw[qcc l (fun i b=>⟨[(13,.d (I i)),(12,.d (I l.length)),(11,.d (.l (K1 19) (l.map AProduct.dv) t)),(8,.d (I b)),(6,.p 0 0 0),(2,.d (I day)),(1,.d (.s nm)),(0,.d (.l (K1 19) (l.map AProduct.dv) t))],[some (.box (K1 19) (.d AProduct.zero.dv))]⟩) inB (fun i b x c=>c (fAt l nm day i b x)) (fun b=>k (.exit 0) [(14,.d (.b false)),(13,.d (I l.length)),(12,.d (I l.length)),(11,.d (.l (K1 19) (l.map AProduct.dv) t)),(8,.d (I b)),(6,.p 0 0 0),(2,.d (I day)),(1,.d (.s nm)),(0,.d (.l (K1 19) (l.map AProduct.dv) t))] [some (.box (K1 19) (.d AProduct.zero.dv))]) ?_ ?_ h0 (.inl rfl)]
  · rw[qg3 (fAt l nm day) _ _ (fun _ _ _ _=>rfl)];rfl
  · intro B _ b _
    simp[qko]
  · intro B _ i b hi hv c hc
    have hm:=mxl
    have h1:(i:Int)<l.length:=by omega
    have h3:=wr1 (i:=i) (by omega)
    have hs:=qxk l nm day i b l[i] hv
    rcases hv with rfl|⟨j,rfl,hj⟩
    · simp[qko,h1,hi,↓qbq,↓qba,↓qbi,↓qbc,qbg,↓qbb,↓qbf,↓qbe,↓qbd,qa5,writeS,touchS,qau,qaQ,chg,qa1,runs,qaO,qa3,PV.refs,IOp.okD,Nat.testBit]
      repeat' (refine qbs (fun h => ?_) (fun h => ?_)<;>(try simp at h)<;>(try simp[h,h3,↓qbr,↓qba,↓qbi,↓qbc,qbg,↓qbb,↓qbo,↓qbf,↓qbe,↓qbd,↓qbn,qa5,writeS,touchS,qau,qaQ,chg,qa1,runs,qaO,qa3,PV.refs,PV.refsL,IOp.okD,Nat.testBit]))
      all_goals first
        | (have e:fAt l nm day i (-1) l[i]=(i:Int):=by simp[fAt,cAt, *]
           rw[e] at hs⊢;exact hc _ _ _ hs (by simp[gc,Fr.keep,qae,qab,qad,PV.refs,qaf,gcH,qag,Obj.refs,PV.ren,Obj.ren,Heap.obj,Fr.ren,gh,zzd]))
        | (have e:fAt l nm day i (-1) l[i] = -1:=by simp[fAt,cAt, *]
           rw[e] at hs⊢;exact hc _ _ _ hs (by simp[gc,Fr.keep,qae,qab,qad,PV.refs,qaf,gcH,qag,Obj.refs,PV.ren,Obj.ren,Heap.obj,Fr.ren,gh,zzd]))
    · have hj1:j<l.length:=by omega
      have hj2:(j:Int)<l.length:=by omega
      have hg:l[j]? = some l[j]:=zze hj1
      simp[qko,h1,hi,↓qbq,↓qba,↓qbi,↓qbc,qbg,↓qbb,↓qbf,↓qbe,↓qbd,qa5,writeS,touchS,qau,qaQ,chg,qa1,runs,qaO,qa3,PV.refs,IOp.okD,Nat.testBit];repeat' (refine qbs (fun h => ?_) (fun h => ?_)<;>(try simp at h)<;>(try simp[h,h3,hj1,hj2,↓qbr,↓qba,↓qbi,↓qbc,qbg,↓qbb,↓qbo,↓qbf,↓qbe,↓qbd,↓qbn,qa5,writeS,touchS,qau,qaQ,chg,qa1,runs,qaO,qa3,PV.refs,PV.refsL,IOp.okD,Nat.testBit]))
      all_goals first
        | (have e:fAt l nm day i j l[i]=(i:Int):=by simp[fAt,cAt,frm, *]
           rw[e] at hs⊢;exact hc _ _ _ hs (by simp[gc,Fr.keep,qae,qab,qad,PV.refs,qaf,gcH,qag,Obj.refs,PV.ren,Obj.ren,Heap.obj,Fr.ren,gh,zzd]))
        | (have e:fAt l nm day i j l[i]=j:=by
             simp[fAt,cAt,frm, *];try omega
           rw[e] at hs⊢;exact hc _ _ _ hs (by simp[gc,Fr.keep,qae,qab,qad,PV.refs,qaf,gcH,qag,Obj.refs,PV.ren,Obj.ren,Heap.obj,Fr.ren,gh,zzd]))
theorem qHC (T:Tab) (hT:HU T) (l:List AProduct) (t:Bool) (nm:List UInt8) (day:Int) (hn:l.length≤maxLen):T.val 30 [.l (K1 19) (l.map AProduct.dv) t,.s nm,I day]=some (.t [.d ((atP l nm day).getD .zero).dv,.d (.b (atP l nm day).isSome)],false):=by
  rw[qaY T (hT 30 F30 rfl) rfl];have lp:=fun k fr H => @qEt T l t nm day hn k fr H
  simp[F30,Fr.ofArgs];refine (lp _ _ _ (by simp[gc,Fr.keep,qae,qab,qad,PV.refs,qaf,gcH,qag,Obj.refs,PV.ren,Obj.ren,Heap.obj,Fr.ren,gh,zzd];rfl)).trans ?_
  have hb:=qDH l nm day
  unfold atP;generalize bst l nm day=b at hb⊢;rcases hb with rfl|⟨j,rfl,hj⟩
  · simp
    try rfl
  · have hj2:(j:Int)<l.length:=by omega
    have hg:l[j]? = some l[j]:=zze hj
    simp[hj,hj2];repeat' (refine qbs (fun h => ?_) (fun h => ?_)<;>(try simp at h)<;>(try simp[h,hj,hj2]))
end Go.Sim
end
section
namespace Go.Sim
set_option maxRecDepth 10000
set_option maxHeartbeats 4000000
def qlg (b:ABooks) (id day:Int):Option AProduct:=match qhR b id with|some a=>atP b.Products.l a.Product day|none=>none
theorem qAx (T:Tab) (hT:HU T) (b:ABooks) (id day:Int) (hb:b.ok):T.val 24 [b.dv,I id,I day]=some (.t [.d ((qlg b id day).getD .zero).dv,.d (.b (qlg b id day).isSome)],false):=by
 rw[qaY T (hT 24 F24 rfl) rfl];have e1:=qy8 T hT b id hb
 have e2:=fun nm=>qHC T hT b.Products.l b.Products.t nm day (hb.2.2.2.2.1).1
 unfold qlg;cases hf:qhR b id with
 |none =>
  rw[hf] at e1;simp only[Option.getD_none,Option.isSome_none] at e1;simp[F24,Fr.ofArgs,e1];try rfl
 |some a =>
  rw[hf] at e1;simp only[Option.getD_some,Option.isSome_some] at e1;simp[F24,Fr.ofArgs,e1,e2]
def w64 (n:Int):Int:=IntKind.i64.wrap n
def qdE (b:ABooks) (id day:Int):Int×Int:=match qhR b id,qlg b id day with
 |some a,some p=>(w64 (-(w64 (p.Overdraft+a.Extra))),0)
 | _,_=>(0,11)
theorem qK2 (T:Tab) (hT:HU T) (b:ABooks) (id day:Int) (hb:b.ok):T.val 719 [b.dv,I id,I day]=some (.t [.d (I (qdE b id day).1),.d (I (qdE b id day).2)],false):=by
 rw[qaY T (hT 719 qhL rfl) rfl];have e1:=qy8 T hT b id hb
 have e2:=qAx T hT b id day hb
 unfold qdE;cases hf:qhR b id with
 |none =>
  rw[hf] at e1;simp only[Option.getD_none,Option.isSome_none] at e1;simp[qhL,Fr.ofArgs,e1,e2]
 |some a =>
  rw[hf] at e1;simp only[Option.getD_some,Option.isSome_some] at e1;cases hp:qlg b id day with
  |none =>
   rw[hp] at e2;simp only[Option.getD_none,Option.isSome_none] at e2;simp[qhL,Fr.ofArgs,e1,e2]
  |some p =>
   rw[hp] at e2;simp only[Option.getD_some,Option.isSome_some] at e2;simp[qhL,Fr.ofArgs,e1,e2,w64]
end Go.Sim
end
section
namespace Go.Sim
set_option maxRecDepth 10000
set_option maxHeartbeats 4000000
def qge (acc day:Int) (_:Nat) (n:Int) (h:AHold):Int:=if (h.Account==acc&&(decide (h.From≤day)&&decide (day≤h.To)))=true then w64 (n+h.Amount) else n
def qhF (l:List AHold) (acc day:Int):Int:=qaS (qge acc day) 0 0 l
theorem qIy (T:Tab) (l:List AHold) (t:Bool) (acc day:Int) (hn:l.length≤maxLen) {k:KC (PV×Bool)} {fr:Fr} {H:Heap} (h0:gc [1,2,7,10,11,12] 0 ⟨fr,H⟩=⟨[(12,(.d (I (0:Int)))),(11,(.d (I l.length))),(10,(.d (.l (K1 6) (l.map AHold.dv) t))),(7,(.d (I 0))),(2,(.d (I day))),(1,(.d (I acc)))],[]⟩) :
    kC T.env 0 fr H (.h (.loop [1,2,7,10,11,12] qmb,k))=k (.exit 0) [(13,.d (.b false)),(12,(.d (I (l.length:Int)))),(11,(.d (I l.length))),(10,(.d (.l (K1 6) (l.map AHold.dv) t))),(7,(.d (I (qaS (qge acc day) 0 0 l)))),(2,(.d (I day))),(1,(.d (I acc)))] []:=by
  rw[qcc l (fun i (b:Int)=>⟨[(12,(.d (I (i:Int)))),(11,(.d (I l.length))),(10,(.d (.l (K1 6) (l.map AHold.dv) t))),(7,(.d (I b))),(2,(.d (I day))),(1,(.d (I acc)))],[]⟩) (fun _ _=>True) (fun i b x c=>c (qge acc day i b x)) (fun b=>k (.exit 0) [(13,.d (.b false)),(12,(.d (I (l.length:Int)))),(11,(.d (I l.length))),(10,(.d (.l (K1 6) (l.map AHold.dv) t))),(7,(.d (I b))),(2,(.d (I day))),(1,(.d (I acc)))] []) ?_ ?_ h0 trivial]
  · rw[qg3 (qge acc day) _ _ (fun _ _ _ _=>rfl)]
  · intro B _ b _
    simp[qmb]
  · intro B _ i b hi _ c hc
    have hm:=mxl
    have h1:(i:Int)<l.length:=by omega
    have h3:=wr1 (i:=i) (by omega)
    simp[qmb,h1,hi];repeat' (refine qbs (fun h => ?_) (fun h => ?_)<;>(try simp at h)<;>(try simp[h,h3]))
    all_goals first
      | (have e:(qge acc day) i b l[i]=w64 (b+l[i].Amount):=by
           simp[qge,w64, *];try (intros;omega)
         rw[e];exact hc _ _ _ trivial (by simp[gc,Fr.keep,qae,qab,qad,PV.refs,gcH,PV.ren,Obj.ren,Heap.obj,Fr.ren,gh];try rfl))
      | (have e:(qge acc day) i b l[i]=b:=by
           simp[qge,w64, *];try (intros;omega)
         rw[e];exact hc _ _ _ trivial (by simp[gc,Fr.keep,qae,qab,qad,PV.refs,gcH,PV.ren,Obj.ren,Heap.obj,Fr.ren,gh];try rfl))
theorem qGo (T:Tab) (hT:HU T) (l:List AHold) (t:Bool) (acc day:Int) (hn:l.length≤maxLen):T.val 716 [.l (K1 6) (l.map AHold.dv) t,I acc,I day]=some (.d (I (qhF l acc day)),false):=by
  rw[qaY T (hT 716 qkK rfl) rfl];simp[qkK,Fr.ofArgs];refine (qIy T l t acc day hn (by simp[gc,Fr.keep,qae,qab,qad,PV.refs,gcH,PV.ren,Obj.ren,Heap.obj,Fr.ren,gh])).trans ?_
  simp[qhF]
end Go.Sim
end
end
section
open Go.Sim
attribute [local simp ↓] qep qeN qen qe4 qdI qdy qeG qdl sqK blK lpK qeX qeO qdo qc2 qe3 qdA qdx qdv qeA qeJ qdp qes qdn qc1 qet qd2 qeb qdR qdm qdU qef qc5 qev qdW qdV qd6 qeU qer qdZ qda qdG qdK qdw qdF qdN qea qe9 qc9 qdY qeV qeL qeq qcQ qeZ qdS qcZ qed qdH qdk qeM qeW qdz qdX qem qe7 qdi qc7 qeT qec qe5 qe8 qe2 qee qdh qeD qde qeh qeK qdL qcn qdD qcK qcN qc6 qeI qeC qe1 qeF qeY qd5 qei qeH qd1 qdB qez qey qdC qd8 qew qdO qfo qfJ qfv qfI qfC qfL qfd qfD qfF qfN qfE qfx
attribute [local simp] qb5 qdt qex qdq qd0 qeR qdg qd7 qds qdr qeB rd IOp.adds qaj gh nid rgK rdS qeS qc4 qc8 qdc qeE qfa qdJ qd3 qdP qdf qe6 qdj qdQ qej qek qc3 qdb qdM qdT qe0 qeg qfl qfk qfs qcr qfb qfp qfh qfR qfM qfH qfP
section
namespace Go.Sim
set_option maxRecDepth 10000
set_option maxHeartbeats 4000000
def qcm (acc day:Int) (x:ABlock):Bool:=x.Account==acc&&(decide (x.From≤day)&&decide (day≤x.To))
def qaU (k:K):List DV→PV
  | []=>.d (.l k [] true)
  | _x::r=>.r 0 k 0 (r.length+1) false
def qaT (k:K):List DV→Heap
  | []=>[]
  |x::r=>[some (.sl k 0 (x::r))]
theorem qK7 (T:Tab) (l:List ABlock) (t:Bool) (acc day:Int) (hn:l.length≤100000) {k:KC (PV×Bool)} {fr:Fr} {H:Heap}
    (hk : ∀(out:List ABlock),out.length≤l.length→k (.exit 0) ((13,.d (.b false))::[(12,(.d (I (l.length:Int)))),(11,(.d (I l.length))),(10,(.d (.l (K1 7) (l.map ABlock.dv) t))),(7,(qaU (K1 7) (out.map ABlock.dv))),(2,(.d (I day))),(1,(.d (I acc)))]) (qaT (K1 7) (out.map ABlock.dv))=some (.d (.l (K1 7) (out.map ABlock.dv) false),true))
    (h0:gc [1,2,7,10,11,12] 0 ⟨fr,H⟩=⟨[(12,(.d (I (0:Int)))),(11,(.d (I l.length))),(10,(.d (.l (K1 7) (l.map ABlock.dv) t))),(7,(qaU (K1 7) [])),(2,(.d (I day))),(1,(.d (I acc)))],qaT (K1 7) []⟩) :
    kC T.env 0 fr H (.h (.loop [1,2,7,10,11,12] qig,k))=some (.d (.l (K1 7) ((l.filter (qcm acc day)).map ABlock.dv) false),true):=by
  have hm:=mxl
  rw[qcc l (fun i (out:List ABlock)=>⟨[(12,(.d (I (i:Int)))),(11,(.d (I l.length))),(10,(.d (.l (K1 7) (l.map ABlock.dv) t))),(7,(qaU (K1 7) (out.map ABlock.dv))),(2,(.d (I day))),(1,(.d (I acc)))],qaT (K1 7) (out.map ABlock.dv)⟩) (fun i out=>out.length≤i) (fun i out x c=>c (if qcm acc day x=true then out++[x] else out)) (fun out=>if out.length≤l.length then some (.d (.l (K1 7) (out.map ABlock.dv) false),true) else k (.exit 0) ((13,.d (.b false))::[(12,(.d (I (l.length:Int)))),(11,(.d (I l.length))),(10,(.d (.l (K1 7) (l.map ABlock.dv) t))),(7,(qaU (K1 7) (out.map ABlock.dv))),(2,(.d (I day))),(1,(.d (I acc)))]) (qaT (K1 7) (out.map ABlock.dv))) ?_ ?_ (b0:=[]) h0 (zzt _)]
  · rw[qg3 (fun _ out x=>if qcm acc day x=true then out++[x] else out) _ _ (fun _ _ _ _=>rfl)]
    have key : ∀(l:List ABlock) (i:Nat) (out:List ABlock),qaS (fun _ out x=>if qcm acc day x=true then out++[x] else out) i out l=out++l.filter (qcm acc day):=by
      intro l;induction l with
      |nil=>intro i out;simp[qaS]
      |cons x l ih=>intro i out;rw[qaS,ih,List.filter_cons];split<;>simp
    rw[key,List.nil_append,if_pos (List.length_filter_le _ _)]
  · intro B _ out ho
    rw[if_pos ho,←hk out ho];have h1 : ¬((l.length:Int)<l.length):=by omega
    cases out with
    |nil=>simp[qig,qaU,qaT]
    |cons x out=>simp[qig,qaU,qaT]
  · intro B _ i out hi ho c hc
    have h1:(i:Int)<l.length:=by omega
    have h3:=wr1 (i:=i) (by omega)
    have hs:(if qcm acc day l[i]=true then out++[l[i]] else out).length≤i+1:=by
      split
      · simp only[zzp,zzn,List.length_nil];omega
      · omega
    have h4:(out.length+1)*64≤2^47:=by omega
    have h4':(out.length+1)*64≤140737488355328:=by omega
    cases out with
    |nil =>
      simp[qig,h1,hi,qaU,qaT];repeat' (refine qbs (fun h => ?_) (fun h => ?_)<;>(try simp at h)<;>(try simp[h,h3]))
      all_goals first
        | (have e:(if qcm acc day l[i]=true then [l[i]] else [])=[l[i]]:=by simp[qcm, *]
           rw[e];exact hc _ _ _ (by simp) (by simp[gc,Fr.keep,qae,qab,qad,PV.refs,qaf,gcH,qag,Obj.refs,PV.ren,Obj.ren,Heap.obj,Fr.ren,gh,zzd,qaU,qaT]))
        | (have e:(if qcm acc day l[i]=true then [l[i]] else [])=[]:=by
             simp[qcm, *];try omega
           rw[e];exact hc _ _ _ (by simp) (by simp[gc,Fr.keep,qae,qab,qad,PV.refs,gcH,PV.ren,Obj.ren,Heap.obj,Fr.ren,gh,qaU,qaT]))
    |cons x out =>
      have h5:(out.length+1+1)*64≤140737488355328:=by simpa using h4'
      have ht:(out.map ABlock.dv).take out.length=out.map ABlock.dv:=List.take_of_length_le (by simp)
      simp only[zzn] at ho;simp[qig,h1,hi,qaU,qaT];repeat' (refine qbs (fun h => ?_) (fun h => ?_)<;>(try simp at h)<;>(try simp[h,h3,h5]))
      all_goals first
        | (have e:(if qcm acc day l[i]=true then x::(out++[l[i]]) else x::out)=x::(out++[l[i]]):=by simp[qcm, *]
           rw[e];exact hc _ _ _ (by simp;omega) (by simp[gc,Fr.keep,qae,qab,qad,PV.refs,qaf,gcH,qag,Obj.refs,PV.ren,Obj.ren,Heap.obj,Fr.ren,gh,zzd,qaU,qaT,ht]))
        | (have e:(if qcm acc day l[i]=true then x::(out++[l[i]]) else x::out)=x::out:=by
             simp[qcm, *];try omega
           rw[e];exact hc _ _ _ (by simp;omega) (by simp[gc,Fr.keep,qae,qab,qad,PV.refs,qaf,gcH,qag,Obj.refs,PV.ren,Obj.ren,Heap.obj,Fr.ren,gh,zzd,qaU,qaT]))
theorem qIE (T:Tab) (hT:HU T) (l:List ABlock) (t:Bool) (acc day:Int) (hn:l.length≤100000):T.val 803 [.l (K1 7) (l.map ABlock.dv) t,I acc,I day]=some (.d (.l (K1 7) ((l.filter (qcm acc day)).map ABlock.dv) false),true):=by
  rw[qaY T (hT 803 qkE rfl) rfl];simp[qkE,Fr.ofArgs];refine qK7 T l t acc day hn (fun out ho => ?_) (by simp[gc,Fr.keep,qae,qab,qad,PV.refs,gcH,PV.ren,Obj.ren,Heap.obj,Fr.ren,gh,qaU,qaT])
  cases out with
  |nil=>simp[qaU,qaT]
  |cons x out =>
    have ht:(out.map ABlock.dv).take out.length=out.map ABlock.dv:=List.take_of_length_le (by simp)
    simp[qaU,qaT,ht]
def qlU (x:ABlock):DV:=if x.Kind=1 then .ifc 171 (.a []) else if x.Kind=2 then .ifc 172 (.a []) else if x.Kind=3 then .ifc 173 (.a []) else if x.Kind=4 then .ifc 111 (.a [I x.Amount]) else .ifc 174 (.a [])
theorem qBy (T:Tab) (hT:HU T) (x:ABlock):T.val 804 [x.dv]=some (.d (qlU x),false):=by
  rw[qaY T (hT 804 qjr rfl) rfl];simp[qjr,Fr.ofArgs];repeat' (refine qbs (fun h => ?_) (fun h => ?_)<;>(try simp at h)<;>(try simp[h,↓qjZ,↓qjW,↓qks,putAt,mkA,qa0,qfY,qli]))
  all_goals simp_all[qlU]
def qg8 (_:Nat) (n:Int) (x:ABlock):Int:=if (x.Kind==4)=true then w64 (n+x.Amount) else n
def qjT (l:List ABlock) (acc day:Int):Int:=qaS qg8 0 0 (l.filter (qcm acc day))
theorem qDC (x:ABlock) : ∃u v,qlU x = .ifc u v∧((u=111∧v = .a [I x.Amount]∧x.Kind=4)∨(u≠111∧x.Kind≠4)):=by
  unfold qlU;by_cases h1:x.Kind=1
  · exact⟨171,.a [],by rw[if_pos h1],.inr ⟨by decide,by omega⟩⟩
  by_cases h2:x.Kind=2
  · exact⟨172,.a [],by rw[if_neg h1,if_pos h2],.inr ⟨by decide,by omega⟩⟩
  by_cases h3:x.Kind=3
  · exact⟨173,.a [],by rw[if_neg h1,if_neg h2,if_pos h3],.inr ⟨by decide,by omega⟩⟩
  by_cases h4:x.Kind=4
  · exact⟨111,_,by rw[if_neg h1,if_neg h2,if_neg h3,if_pos h4],.inl ⟨rfl,rfl,h4⟩⟩
  · exact⟨174,.a [],by rw[if_neg h1,if_neg h2,if_neg h3,if_neg h4],.inr ⟨by decide,h4⟩⟩
theorem qAX (T:Tab) (l:List ABlock) (t:Bool) (hT:HU T) (hn:l.length≤maxLen) {k:KC (PV×Bool)} {fr:Fr} {H:Heap} (h0:gc [7,15,16,17] 0 ⟨fr,H⟩=⟨[(17,(.d (I (0:Int)))),(16,(.d (I l.length))),(15,(.d (.l (K1 7) (l.map ABlock.dv) t))),(7,(.d (I 0)))],[]⟩) :
    kC T.env 0 fr H (.h (.loop [7,15,16,17] qjY,k))=k (.exit 0) [(18,.d (.b false)),(17,(.d (I (l.length:Int)))),(16,(.d (I l.length))),(15,(.d (.l (K1 7) (l.map ABlock.dv) t))),(7,(.d (I (qaS (qg8) 0 0 l))))] []:=by
  rw[qcc l (fun i (b:Int)=>⟨[(17,(.d (I (i:Int)))),(16,(.d (I l.length))),(15,(.d (.l (K1 7) (l.map ABlock.dv) t))),(7,(.d (I b)))],[]⟩) (fun _ _=>True) (fun i b x c=>c (qg8 i b x)) (fun b=>k (.exit 0) [(18,.d (.b false)),(17,(.d (I (l.length:Int)))),(16,(.d (I l.length))),(15,(.d (.l (K1 7) (l.map ABlock.dv) t))),(7,(.d (I b)))] []) ?_ ?_ h0 trivial]
  · rw[qg3 (qg8) _ _ (fun _ _ _ _=>rfl)]
  · intro B _ b _
    simp[qjY]
  · intro B _ i b hi _ c hc
    have hm:=mxl
    have h1:(i:Int)<l.length:=by omega
    have h3:=wr1 (i:=i) (by omega)
    have hv:=qBy T hT l[i]
    obtain⟨u,v,hc1,⟨rfl,rfl,hk⟩|⟨hu,hk⟩⟩:=qDC l[i]
    · rw[hc1] at hv
      have e:qg8 i b l[i]=w64 (b+l[i].Amount):=by simp[qg8,hk]
      simp[qjY,h1,hi,hv];rw[e];exact hc _ _ _ trivial (by simp[gc,Fr.keep,qae,qab,qad,PV.refs,gcH,PV.ren,Obj.ren,Heap.obj,Fr.ren,gh,h3,w64])
    · rw[hc1] at hv
      have e:qg8 i b l[i]=b:=by simp[qg8,hk]
      simp[qjY,h1,hi,h3,hv,hu];rw[e];exact hc _ _ _ trivial (by simp[gc,Fr.keep,qae,qab,qad,PV.refs,gcH,PV.ren,Obj.ren,Heap.obj,Fr.ren,gh])
theorem qE3 (T:Tab) (hT:HU T) (l:List ABlock) (t:Bool) (acc day:Int) (hn:l.length≤100000):T.val 720 [.l (K1 7) (l.map ABlock.dv) t,I acc,I day]=some (.d (I (qjT l acc day)),false):=by
  rw[qaY T (hT 720 qjh rfl) rfl];have e:=qIE T hT l t acc day hn
  have hl:(l.filter (qcm acc day)).length≤maxLen:=by
    have:=List.length_filter_le (qcm acc day) l
    have hm:=mxl
    omega
  simp[qjh,Fr.ofArgs,e];refine (qAX T (l.filter (qcm acc day)) false hT hl (by simp[gc,Fr.keep,qae,qab,qad,PV.refs,gcH,PV.ren,Obj.ren,Heap.obj,Fr.ren,gh])).trans ?_
  simp[qjT]
end Go.Sim
end
section
namespace Go.Sim
set_option maxRecDepth 10000
set_option maxHeartbeats 4000000
end Go.Sim
end
section
namespace Go.Sim
set_option maxRecDepth 10000
set_option maxHeartbeats 4000000
end Go.Sim
end
end
section
open Go.Sim
attribute [local simp ↓] qep qeN qen qe4 qdI qdy qeG qdl sqK blK lpK qeX qeO qdo qc2 qe3 qdA qdx qdv qeA qeJ qdp qes qdn qc1 qet qd2 qeb qdR qdm qdU qef qc5 qev qdW qdV qd6 qeU qer qdZ qda qdG qdK qdw qdF qdN qea qe9 qc9 qdY qeV qeL qeq qcQ qeZ qdS qcZ qed qdH qdk qeM qeW qdz qdX qem qe7 qdi qc7 qeT qec qe5 qe8 qe2 qee qdh qeD qde qeh qeK qdL qcn qdD qcK qcN qc6 qeI qeC qe1 qeF qeY qd5 qei qeH qd1 qdB qez qey qdC qd8 qew qdO qfo qfJ qfv qfI qfC qfL qfd qfD qfF qfN qfE qfx qgl qf2
attribute [local simp] qb5 qdt qex qdq qd0 qeR qdg qd7 qds qdr qeB rd IOp.adds qaj gh nid rgK rdS qeS qc4 qc8 qdc qeE qfa qdJ qd3 qdP qdf qe6 qdj qdQ qej qek qc3 qdb qdM qdT qe0 qeg qfl qfk qfs qcr qfb qfp qfh qfR qfM qfH qfP
section
namespace Go.Sim
set_option maxRecDepth 10000
set_option maxHeartbeats 4000000
def qcW (acc:Int) (_:Nat) (n:Int) (x:ALeg):Int:=if (x.Account==acc)=true then w64 (n-x.Amount) else n
def qtQ (acc:Int) (e:AEntry):Int:=qaS (qcW acc) 0 0 e.Legs.l
def qlY (acc:Int) (_:Nat) (n:Int) (e:AEntry):Int:=w64 (n+qtQ acc e)
def ofR (j:List AEntry) (acc:Int):Int:=qaS (qlY acc) 0 0 j
end Go.Sim
end
section
namespace Go.Sim
set_option maxRecDepth 10000
set_option maxHeartbeats 4000000
end Go.Sim
end
end
section
namespace Go.Sim
def lsb {α:Type} (f:α→α→Bool):List α→List α→Bool
 | [],[]=>true
 |x::xs,y::ys=>f x y&&lsb f xs ys
 | _,_=>false
theorem qc0 {α:Type} {f:α→α→Bool} (h : ∀x,f x x=true) : ∀l,lsb f l l=true
 | []=>rfl
 |x::l=>by simp[lsb,h,qc0 h l]
def ibq (x y:Int):Bool:=x==y
theorem qcx (x:Int):ibq x x=true:=by simp[ibq]
def sbq (x y:List UInt8):Bool:=x==y
theorem qdu (x:List UInt8):sbq x x=true:=by simp[sbq]
def bbq (x y:Bool):Bool:=x==y
theorem qDZ (x:Bool):bbq x x=true:=by simp[bbq]
mutual
def deq:DV→DV→Bool
 | .b x,.b y=>x==y
 | .i k n,.i k' m=>decide (k=k')&&decide (n=m)
 | .s x,.s y=>x==y
 | .a cs,.a ds=>qiV cs ds
 | .l _ es _,.l _ fs _=>qiV es fs
 | .np,.np=>true
 | .nf,.nf=>true
 | .ni,.ni=>true
 | .nm,.nm=>true
 | .ifc t v,.ifc t' w=>Nat.beq t t'&&deq v w
 | .tok n,.tok m=>Nat.beq n m
 | _,_=>false
def qiV:List DV→List DV→Bool
 | [],[]=>true
 |x::xs,y::ys=>deq x y&&qiV xs ys
 | _,_=>false
end
mutual
theorem quq : ∀x,deq x x=true
 | .b x=>by simp[deq]
 | .i k n=>by simp[deq]
 | .s x=>by simp[deq]
 | .a cs=>by simp[deq,qnN cs]
 | .l k es t=>by simp[deq,qnN es]
 | .np=>rfl
 | .nf=>rfl
 | .ni=>rfl
 | .nm=>rfl
 | .ifc t v=>by simp[deq,quq v]
 | .tok n=>by simp[deq]
theorem qnN : ∀x,qiV x x=true
 | []=>rfl
 |x::xs=>by simp[qiV,quq x,qnN xs]
end
def ACurrency.beq (x y:ACurrency):Bool:=sbq x.Code y.Code&&ibq x.Digits y.Digits
theorem ACurrency.beq_refl (x:ACurrency):ACurrency.beq x x=true:=by
 simp only[ACurrency.beq,qdu,qcx,Bool.and_true]
def ACalendar.beq (x y:ACalendar):Bool:=sbq x.Name y.Name&&lsb ibq x.Weekend.l y.Weekend.l&&lsb ibq x.Holidays.l y.Holidays.l
theorem ACalendar.beq_refl (x:ACalendar):ACalendar.beq x x=true:=by
 simp only[ACalendar.beq,qdu,qc0 qcx,Bool.and_true]
def AVar.beq (x y:AVar):Bool:=sbq x.Name y.Name&&ibq x.Typ y.Typ
theorem AVar.beq_refl (x:AVar):AVar.beq x x=true:=by
 simp only[AVar.beq,qdu,qcx,Bool.and_true]
def ATier.beq (x y:ATier):Bool:=ibq x.From y.From&&ibq x.Ppm y.Ppm
theorem ATier.beq_refl (x:ATier):ATier.beq x x=true:=by
 simp only[ATier.beq,qcx,Bool.and_true]
def AInterest.beq (x y:AInterest):Bool:=lsb ATier.beq x.Tiers.l y.Tiers.l&&bbq x.Marginal y.Marginal&&ibq x.Basis y.Basis&&ibq x.Mode y.Mode&&bbq x.Keep y.Keep
theorem AInterest.beq_refl (x:AInterest):AInterest.beq x x=true:=by
 simp only[AInterest.beq,qc0 ATier.beq_refl,qDZ,qcx,Bool.and_true]
def AExpr.beq (x y:AExpr):Bool:=ibq x.Op y.Op&&ibq x.N y.N&&sbq x.S y.S&&qiV x.Args.l y.Args.l
theorem AExpr.beq_refl (x:AExpr):AExpr.beq x x=true:=by
 simp only[AExpr.beq,qcx,qdu,qnN,Bool.and_true]
def AFee.beq (x y:AFee):Bool:=sbq x.Name y.Name&&ibq x.Event y.Event&&AExpr.beq x.When y.When&&AExpr.beq x.Amount y.Amount
theorem AFee.beq_refl (x:AFee):AFee.beq x x=true:=by
 simp only[AFee.beq,qdu,qcx,AExpr.beq_refl,Bool.and_true]
def ARule.beq (x y:ARule):Bool:=sbq x.Name y.Name&&ibq x.Window y.Window&&AExpr.beq x.Amount y.Amount
theorem ARule.beq_refl (x:ARule):ARule.beq x x=true:=by
 simp only[ARule.beq,qdu,qcx,AExpr.beq_refl,Bool.and_true]
def AProduct.beq (x y:AProduct):Bool:=sbq x.Name y.Name&&sbq x.Currency y.Currency&&sbq x.Calendar y.Calendar&&ibq x.From y.From&&ibq x.Every y.Every&&ibq x.Overdraft y.Overdraft&&ibq x.TaxPpm y.TaxPpm&&AInterest.beq x.Credit y.Credit&&AInterest.beq x.Debit y.Debit&&lsb AFee.beq x.Fees.l y.Fees.l&&lsb ARule.beq x.Rules.l y.Rules.l
theorem AProduct.beq_refl (x:AProduct):AProduct.beq x x=true:=by
 simp only[AProduct.beq,qdu,qcx,AInterest.beq_refl,qc0 AFee.beq_refl,qc0 ARule.beq_refl,Bool.and_true]
def AGl.beq (x y:AGl):Bool:=ibq x.Id y.Id&&ibq x.Parent y.Parent&&ibq x.Kind y.Kind&&sbq x.Name y.Name
theorem AGl.beq_refl (x:AGl):AGl.beq x x=true:=by
 simp only[AGl.beq,qcx,qdu,Bool.and_true]
def ALeg.beq (x y:ALeg):Bool:=ibq x.Account y.Account&&ibq x.Amount y.Amount&&sbq x.Currency y.Currency
theorem ALeg.beq_refl (x:ALeg):ALeg.beq x x=true:=by
 simp only[ALeg.beq,qcx,qdu,Bool.and_true]
def AEntry.beq (x y:AEntry):Bool:=ibq x.Id y.Id&&ibq x.Booked y.Booked&&ibq x.Value y.Value&&ibq x.Kind y.Kind&&ibq x.Auth y.Auth&&ibq x.Period y.Period&&sbq x.Key y.Key&&sbq x.Text y.Text&&lsb ALeg.beq x.Legs.l y.Legs.l&&ibq x.Chain y.Chain
theorem AEntry.beq_refl (x:AEntry):AEntry.beq x x=true:=by
 simp only[AEntry.beq,qcx,qdu,qc0 ALeg.beq_refl,Bool.and_true]
def AHold.beq (x y:AHold):Bool:=ibq x.Id y.Id&&ibq x.Account y.Account&&ibq x.Amount y.Amount&&ibq x.From y.From&&ibq x.To y.To&&sbq x.Key y.Key
theorem AHold.beq_refl (x:AHold):AHold.beq x x=true:=by
 simp only[AHold.beq,qcx,qdu,Bool.and_true]
def ABlock.beq (x y:ABlock):Bool:=ibq x.Id y.Id&&ibq x.Account y.Account&&ibq x.Kind y.Kind&&ibq x.Amount y.Amount&&ibq x.From y.From&&ibq x.To y.To&&sbq x.Source y.Source
theorem ABlock.beq_refl (x:ABlock):ABlock.beq x x=true:=by
 simp only[ABlock.beq,qcx,qdu,Bool.and_true]
def AAccount.beq (x y:AAccount):Bool:=ibq x.Id y.Id&&ibq x.Opened y.Opened&&ibq x.Closed y.Closed&&ibq x.Extra y.Extra&&sbq x.Owner y.Owner&&sbq x.Product y.Product&&sbq x.Number y.Number
theorem AAccount.beq_refl (x:AAccount):AAccount.beq x x=true:=by
 simp only[AAccount.beq,qcx,qdu,Bool.and_true]
def APlan.beq (x y:APlan):Bool:=ibq x.Cash y.Cash&&ibq x.Deposits y.Deposits&&ibq x.InterestPaid y.InterestPaid&&ibq x.InterestEarned y.InterestEarned&&ibq x.FeeEarned y.FeeEarned&&ibq x.Tax y.Tax&&ibq x.Clearing y.Clearing&&ibq x.Loans y.Loans&&ibq x.LoanInterest y.LoanInterest&&ibq x.Penalty y.Penalty&&ibq x.Provision y.Provision&&ibq x.ProvisionCost y.ProvisionCost&&ibq x.Loss y.Loss&&ibq x.Recovery y.Recovery
theorem APlan.beq_refl (x:APlan):APlan.beq x x=true:=by
 simp only[APlan.beq,qcx,Bool.and_true]
def ABooks.beq (x y:ABooks):Bool:=lsb ACurrency.beq x.Currencies.l y.Currencies.l&&lsb ACalendar.beq x.Calendars.l y.Calendars.l&&lsb AGl.beq x.Chart.l y.Chart.l&&APlan.beq x.Plan y.Plan&&lsb AProduct.beq x.Products.l y.Products.l&&lsb AAccount.beq x.Accounts.l y.Accounts.l&&lsb AEntry.beq x.Journal.l y.Journal.l&&lsb AHold.beq x.Holds.l y.Holds.l&&lsb ABlock.beq x.Blocks.l y.Blocks.l
theorem ABooks.beq_refl (x:ABooks):ABooks.beq x x=true:=by
 simp only[ABooks.beq,qc0 ACurrency.beq_refl,qc0 ACalendar.beq_refl,qc0 AGl.beq_refl,APlan.beq_refl,qc0 AProduct.beq_refl,qc0 AAccount.beq_refl,qc0 AEntry.beq_refl,qc0 AHold.beq_refl,qc0 ABlock.beq_refl,Bool.and_true]
end Go.Sim
end
section
open Go.Sim
attribute [local simp ↓] qep qeN qen qe4 qdI qdy qeG qdl sqK blK lpK qeX qeO qdo qc2 qe3 qdA qdx qdv qeA qeJ qdp qes qdn qc1 qet qd2 qeb qdR qdm qdU qef qc5 qev qdW qdV qd6 qeU qer qdZ qda qdG qdK qdw qdF qdN qea qe9 qc9 qdY qeV qeL qeq qcQ qeZ qdS qcZ qed qdH qdk qeM qeW qdz qdX qem qe7 qdi qc7 qeT qec qe5 qe8 qe2 qee qdh qeD qde qeh qeK qdL qcn qdD qcK qcN qc6 qeI qeC qe1 qeF qeY qd5 qei qeH qd1 qdB qez qey qdC qd8 qew qdO qfo qfJ qfv qfI qfC qfL qfd qfD qfF qfN qfE qfx qgl qf2
attribute [local simp] qb5 qdt qex qdq qd0 qeR qdg qd7 qds qdr qeB rd IOp.adds qaj gh nid rgK rdS qeS qc4 qc8 qdc qeE qfa qdJ qd3 qdP qdf qe6 qdj qdQ qej qek qc3 qdb qdM qdT qe0 qeg qfl qfk qfs qcr qfb qfp qfh qfR qfM qfH qfP
section
namespace Go.Sim
theorem qI4 {e:DV} (h:XE e) : ∃a:AExpr,e=a.dv∧a.ok:=by
 cases h with
 |mk o n s a h1 h2 h3 h4 =>
  cases h4 with
  |mk es h5 h6 h7=>exact⟨⟨o,n,s,⟨es,false⟩⟩,rfl,h1,h2,h3,.mk es h5 h6 h7⟩
theorem qup {es:List DV} {t:Bool} (h:XL (.l (K1 4) es t)):es.length≤maxLen∧∃l:List AExpr,es=l.map AExpr.dv∧∀a∈l,a.ok:=by
 cases h with
 |mk _ h5 h6=>exact⟨h5,ql9 fun e he=>qI4 (h6 e he)⟩
theorem qsd {x a:AExpr} (h:a.dv∈x.Args.l):SizeOf.sizeOf a.dv<SizeOf.sizeOf x.dv:=by
 have h1:=List.sizeOf_lt_of_mem h
 have h2:SizeOf.sizeOf x.Args.l<SizeOf.sizeOf x.dv:=by
  simp only[AExpr.dv,DV.a.sizeOf_spec,List.cons.sizeOf_spec,DV.l.sizeOf_spec];omega
 omega
end Go.Sim
end
section
namespace Go.Sim
set_option maxRecDepth 10000
set_option maxHeartbeats 4000000
mutual
def qaB:DV→Int→Int
 | .a [_,_,_,.l _ es _],m=>qca es 1 m
 | _,_=>1
def qca:List DV→Int→Int→Int
 | [],n,_=>n
 |e::es,n,m=>if n≤m then qca es (n+qaB e (m-n)) m else n
end
mutual
theorem qnk : ∀(e:DV) (m:Int),0≤m→1≤qaB e m∧qaB e m≤m+1
 | .a [_,_,_,.l _ es _],m,h=>by
  unfold qaB;exact qxd es 1 m (by omega) (by omega)
 | .a [],m,h=>by unfold qaB;omega
 | .a [_],m,h=>by unfold qaB;omega
 | .a [_,_],m,h=>by unfold qaB;omega
 | .a [_,_,_],m,h=>by unfold qaB;omega
 | .a (_::_::_ :: .b _::_),m,h=>by unfold qaB;omega
 | .a (_::_::_ :: .i _ _::_),m,h=>by unfold qaB;omega
 | .a (_::_::_ :: .s _::_),m,h=>by unfold qaB;omega
 | .a (_::_::_ :: .a _::_),m,h=>by unfold qaB;omega
 | .a (_::_::_ :: .np::_),m,h=>by unfold qaB;omega
 | .a (_::_::_ :: .nf::_),m,h=>by unfold qaB;omega
 | .a (_::_::_ :: .ni::_),m,h=>by unfold qaB;omega
 | .a (_::_::_ :: .nm::_),m,h=>by unfold qaB;omega
 | .a (_::_::_ :: .ifc _ _::_),m,h=>by unfold qaB;omega
 | .a (_::_::_ :: .tok _::_),m,h=>by unfold qaB;omega
 | .a (_::_::_ :: .l _ _ _::_::_),m,h=>by unfold qaB;omega
 | .b _,m,h=>by unfold qaB;omega
 | .i _ _,m,h=>by unfold qaB;omega
 | .s _,m,h=>by unfold qaB;omega
 | .l _ _ _,m,h=>by unfold qaB;omega
 | .np,m,h=>by unfold qaB;omega
 | .nf,m,h=>by unfold qaB;omega
 | .ni,m,h=>by unfold qaB;omega
 | .nm,m,h=>by unfold qaB;omega
 | .ifc _ _,m,h=>by unfold qaB;omega
 | .tok _,m,h=>by unfold qaB;omega
theorem qxd : ∀(es:List DV) (n m:Int),1≤n→n≤m+1→1≤qca es n m∧qca es n m≤m+1
 | [],n,m,h1,h2=>⟨h1,h2⟩
 |e::es,n,m,h1,h2=>by
  unfold qca;split
  ·rename_i h
   have:=qnk e (m-n) (by omega)
   exact qxd es _ m (by omega) (by omega)
  ·exact⟨h1,h2⟩
end
theorem qCT (T:Tab) (x:AExpr) (l:List AExpr) (hl:x.Args.l=l.map AExpr.dv) (m:Int) (hm0:0≤m) (hm1:m≤1000) (hn:l.length≤maxLen) (hv : ∀y∈l,∀m',0≤m'→m'≤1000→T.val 950 [y.dv,I m']=some (.d (I (qaB y.dv m')),false)) {k:KC (PV×Bool)} {r:Int→Option (PV×Bool)} {fr:Fr} {H:Heap}
  (hk : ∀(i:Nat) (n:Int),k (.exit 0) [(16,.d (.b false)),(6,.d (I i)),(5,.d (I n)),(2,.p 0 0 0),(1,.d (I m))] [some (.box (K1 4) (.d x.dv))]=r n)
  (h0:gc [1,2,5,6] 0 ⟨fr,H⟩=⟨[(6,.d (I 0)),(5,.d (I 1)),(2,.p 0 0 0),(1,.d (I m))],[some (.box (K1 4) (.d x.dv))]⟩) :
  kC T.env 0 fr H (.h (.loop [1,2,5,6] qnT,k))=r (qca x.Args.l 1 m):=by
 have hm:=mxl
 rw[qcc l (fun i (n:Int)=>⟨[(6,.d (I i)),(5,.d (I n)),(2,.p 0 0 0),(1,.d (I m))],[some (.box (K1 4) (.d x.dv))]⟩) (fun _ n=>1≤n∧n≤m+1) (fun i n y c=>if n≤m then c (n+qaB y.dv (m-n)) else r n) r ?_ ?_ h0 ⟨by omega,by omega⟩]
 ·have key : ∀(es:List AExpr) (i:Nat) (n:Int),rounds (fun i n y c=>if n≤m then c (n+qaB (AExpr.dv y) (m-n)) else r n) r i n es=r (qca (es.map AExpr.dv) n m):=by
   intro es;induction es with
   |nil=>intro i n;simp[rounds,qca]
   |cons y es ih =>
    intro i n;rw[rounds,zzu,qca];split
    ·exact ih _ _
    ·rfl
  rw[hl];exact key l 0 1
 ·intro B _ n _
  have:=hk l.length n
  simp[qnT,hl];exact this
 ·intro B _ i n hi hn1 c hc;have h1:(i:Int)<l.length:=by omega
  have h3:=wr1 (i:=i) (by omega)
  have h4:IntKind.i64.wrap (m-n)=m-n:=wrI (by omega) (by omega)
  simp[qnT,h1,hl];refine qbs (fun h => ?_) (fun h => ?_)
  ·simp at h;have hb:=qnk l[i].dv (m-n) (by omega)
   have h5:IntKind.i64.wrap (n+qaB l[i].dv (m-n))=n+qaB l[i].dv (m-n):=wrI (by omega) (by omega)
   have hw:=hv l[i] (zzs hi) (m-n) (by omega) (by omega)
   simp[h,h1,hi,h3,h4,h5,hw,hl];exact hc _ _ _ ⟨by omega,by omega⟩ (by simp[gc,Fr.keep,qae,qab,qad,PV.refs,qaf,gcH,qag,Obj.refs,PV.ren,Obj.ren,Heap.obj,Fr.ren,gh,zzd])
  ·simp at h;have h' : ¬n≤m:=by omega
   simp[h'];exact hk i n
theorem qqm (T:Tab) (hT:HU T) : ∀(n:Nat) (x:AExpr),SizeOf.sizeOf x.dv<n→x.ok→∀m,0≤m→m≤1000→T.val 950 [x.dv,I m]=some (.d (I (qaB x.dv m)),false)
 | 0,_,h,_,_,_,_=>absurd h (zzm _)
 |n+1,x,hs,hx,m,h0,h1=>by
  obtain⟨hlen,l,hl,hlo⟩:=qup hx.2.2.2;rw[qaY T (hT 950 qg9 rfl) rfl];have hn:l.length≤maxLen:=by rw[hl] at hlen;simpa using hlen
  have lp:=fun k r fr H => @qCT T x l hl m h0 h1 hn (fun y hy=>qqm T hT n y (by have:=qsd (x:=x) (a:=y) (by rw[hl];exact List.mem_map_of_mem hy);omega) (hlo _ hy)) k r fr H
  simp[qg9,Fr.ofArgs];refine (lp _ (fun n=>some (.d (I n),false)) _ _ (fun i n => ?_) (by simp[gc,Fr.keep,qae,qab,qad,PV.refs,qaf,gcH,qag,Obj.refs,PV.ren,Obj.ren,Heap.obj,Fr.ren,gh,zzd])).trans ?_
  ·simp
  ·rfl
theorem qsc (T:Tab) (hT:HU T) (x:AExpr) (hx:x.ok):T.val 919 [x.dv,I 100]=some (.d (.b (decide (100<qaB x.dv 100))),false):=by
 rw[qaY T (hT 919 qf4 rfl) rfl];have e:=qqm T hT _ x (Nat.lt_succ_self _) hx 100 (by decide) (by decide)
 simp[qf4,Fr.ofArgs,e]
end Go.Sim
end
section
namespace Go.Sim
set_option maxRecDepth 10000
set_option maxHeartbeats 8000000
def qfq {R:Type} (n:Nat) (k:KC R) (r:Option R):Prop:=∀fr H,fr.get n = .d (.b true)→qaE fr=[]→k .ret fr H=r
theorem qhr {R:Type} {n id:Nat} {k:KC R} {r:Option R}:qfq n (blK id k) r=qfq n k r:=rfl
theorem qhw {R:Type} {n:Nat} {E:Env} {base:Nat} {b:PC} {k:KC R} {r:Option R}:qfq n (sqK E base b k) r=qfq n k r:=rfl
theorem qhv {n:Nat} {E:Env}:qfq n (fin E [.t n]) (some (.d (.b true),false))=True:=by
  refine eq_true ?_;intro fr H h1 h2;rw[qcn h2,qcN,qcK,h1];rfl
def qf9 (h:AHold):Bool:=decide (200<h.Key.length)
def qi2 (l:List AHold):Bool:=decide (100<l.length)||l.any qf9
def qf6 (x:ALeg):Bool:=decide (100<x.Currency.length)
def qfe (e:AEntry):Bool:=decide (30<e.Legs.l.length)||decide (1000<e.Key.length)||decide (1000<e.Text.length)||e.Legs.l.any qf6
def grX (x:AExpr):Bool:=decide (100<qaB x.dv 100)
def qf0 (f:AFee):Bool:=decide (100<f.Name.length)||grX f.When||grX f.Amount
def qgc (f:ARule):Bool:=decide (100<f.Name.length)||grX f.Amount
def qfg (p:AProduct):Bool:=decide (100<p.Name.length)||decide (100<p.Currency.length)||decide (100<p.Calendar.length)||decide (20<p.Credit.Tiers.l.length)||decide (20<p.Debit.Tiers.l.length)||decide (10<p.Fees.l.length)||decide (10<p.Rules.l.length)||p.Fees.l.any qf0||p.Rules.l.any qgc
def qf1 (c:ACalendar):Bool:=decide (400<c.Holidays.l.length)||decide (20<c.Weekend.l.length)
def qhi (b:ABooks):Bool:=decide (20<b.Currencies.l.length)||decide (10<b.Calendars.l.length)||decide (60<b.Chart.l.length)||decide (20<b.Products.l.length)||decide (40<b.Accounts.l.length)||decide (150<b.Journal.l.length)||qi2 b.Holds.l||decide (100<b.Blocks.l.length)||b.Products.l.any qfg||b.Journal.l.any qfe||b.Calendars.l.any qf1
theorem qEv (T:Tab) (l:List AHold) (t:Bool) (hn:l.length≤maxLen) {k:KC (PV×Bool)} {r:Option (PV×Bool)} {fr:Fr} {H:Heap} (hr:qfq 2 k r) (h0:gc [0,3] 0 ⟨fr,H⟩=⟨[(3,(.d (I (0:Int)))),(0,(.d (.l (K1 6) (l.map AHold.dv) t)))],[]⟩) :
    kC T.env 0 fr H (.h (.loop [0,3] qnG,k))=brn (l.any (qf9)) (.h (r,k (.exit 0) [(10,.d (.b false)),(3,(.d (I (l.length:Int)))),(0,(.d (.l (K1 6) (l.map AHold.dv) t)))] [])):=by
  have hm:=mxl
  rw[qcc l (fun i _=>⟨[(3,(.d (I (i:Int)))),(0,(.d (.l (K1 6) (l.map AHold.dv) t)))],[]⟩) (fun _ _=>True) (fun i _ x c=>if (qf9) x=true then r else c ()) (fun _=>k (.exit 0) [(10,.d (.b false)),(3,(.d (I (l.length:Int)))),(0,(.d (.l (K1 6) (l.map AHold.dv) t)))] []) ?_ ?_ h0 trivial]
  · rw[qgR (qf9) r]
    · cases l.any (qf9)<;>rfl
    · exact fun _ _ _ _=>rfl
  · intro B _ _ _
    simp[qnG]
  · intro B _ i _ hi _ c hc
    have h1:(i:Int)<l.length:=by omega
    have h3:=wr1 (i:=i) (by omega)
    simp[qnG,h1,hi];repeat' (refine qbs (fun h => ?_) (fun h => ?_)<;>(try simp at h)<;>(try simp[h3]))
    all_goals first
      | (have e:(qf9) l[i]=true:=by
           simp[qf9, *];try omega
         rw[if_pos e];exact hr _ _ (by simp[Fr.get]) (by simp[qaE,gh]))
      | (have e : ¬(qf9) l[i]=true:=by
           simp[qf9, *];try omega
         rw[if_neg e];exact hc () _ _ trivial (by simp[gc,Fr.keep,qae,qab,qad,PV.refs,gcH,PV.ren,Obj.ren,Heap.obj,Fr.ren,gh]))
theorem qBt (T:Tab) (hT:HU T) (l:List AHold) (t:Bool) (hn:l.length≤maxLen):T.val 1094 [.l (K1 6) (l.map AHold.dv) t]=some (.d (.b (qi2 l)),false):=by
  rw[qaY T (hT 1094 qg4 rfl) rfl];have lp:=fun k fr H => @qEv T l t hn k (some (.d (.b true),false)) fr H
  obtain⟨q,hq⟩ : ∃q,l.any qf9=q:=⟨_,rfl⟩;simp only[hq] at lp;have hs:qi2 l=(decide (100<l.length)||q):=by rw[qi2,hq]
  clear hq
  simp[qg4,Fr.ofArgs];repeat' first
    | (refine qbs (fun h => ?_) (fun h => ?_)<;>(try simp at h)<;>(try simp))
    |refine (lp _ _ _ (by simp[qhr,qhw,qhv]) (by simp[gc,Fr.keep,qae,qab,qad,PV.refs,gcH,PV.ren,Obj.ren,Heap.obj,Fr.ren,gh])).trans ?_
  all_goals simp_all
  all_goals omega
theorem qBb (T:Tab) (e:AEntry) (hn:e.Legs.l.length≤maxLen) {k:KC (PV×Bool)} {r:Option (PV×Bool)} {fr:Fr} {H:Heap} (hr:qfq 2 k r) (h0:gc [1,3] 0 ⟨fr,H⟩=⟨[(3,(.d (I (0:Int)))),(1,(.p 0 0 0))],[some (.box (K1 10) (.d e.dv))]⟩) :
    kC T.env 0 fr H (.h (.loop [1,3] qlI,k))=brn (e.Legs.l.any (qf6)) (.h (r,k (.exit 0) [(24,.d (.b false)),(3,(.d (I (e.Legs.l.length:Int)))),(1,(.p 0 0 0))] [some (.box (K1 10) (.d e.dv))])):=by
  have hm:=mxl
  rw[qcc e.Legs.l (fun i _=>⟨[(3,(.d (I (i:Int)))),(1,(.p 0 0 0))],[some (.box (K1 10) (.d e.dv))]⟩) (fun _ _=>True) (fun i _ x c=>if (qf6) x=true then r else c ()) (fun _=>k (.exit 0) [(24,.d (.b false)),(3,(.d (I (e.Legs.l.length:Int)))),(1,(.p 0 0 0))] [some (.box (K1 10) (.d e.dv))]) ?_ ?_ h0 trivial]
  · rw[qgR (qf6) r]
    · cases e.Legs.l.any (qf6)<;>rfl
    · exact fun _ _ _ _=>rfl
  · intro B _ _ _
    simp[qlI]
  · intro B _ i _ hi _ c hc
    have h1:(i:Int)<e.Legs.l.length:=by omega
    have h3:=wr1 (i:=i) (by omega)
    simp[qlI,h1,hi];repeat' (refine qbs (fun h => ?_) (fun h => ?_)<;>(try simp at h)<;>(try simp[h3]))
    all_goals first
      | (have e:(qf6) e.Legs.l[i]=true:=by
           simp[qf6, *];try omega
         rw[if_pos e];exact hr _ _ (by simp[Fr.get]) (by simp[qaE,gh]))
      | (have e : ¬(qf6) e.Legs.l[i]=true:=by
           simp[qf6, *];try omega
         rw[if_neg e];exact hc () _ _ trivial (by simp[gc,Fr.keep,qae,qab,qad,PV.refs,qaf,gcH,qag,Obj.refs,PV.ren,Obj.ren,Heap.obj,Fr.ren,gh,zzd]))
theorem qBM (T:Tab) (hT:HU T) (e:AEntry) (he:e.ok):T.val 1096 [e.dv]=some (.d (.b (qfe e)),false):=by
  rw[qaY T (hT 1096 qgU rfl) rfl];have lp:=fun k fr H => @qBb T e (he.2.2.2.2.2.2.2.2.1).1 k (some (.d (.b true),false)) fr H
  obtain⟨q,hq⟩ : ∃q,e.Legs.l.any qf6=q:=⟨_,rfl⟩;simp only[hq] at lp;have hs:qfe e=(decide (30<e.Legs.l.length)||decide (1000<e.Key.length)||decide (1000<e.Text.length)||q):=by rw[qfe,hq]
  clear hq
  simp[qgU,Fr.ofArgs];repeat' first
    | (refine qbs (fun h => ?_) (fun h => ?_)<;>(try simp at h)<;>(try simp[h]))
    |refine (lp _ _ _ (by simp[qhr,qhw,qhv]) (by simp[gc,Fr.keep,qae,qab,qad,PV.refs,qaf,gcH,qag,Obj.refs,PV.ren,Obj.ren,Heap.obj,Fr.ren,gh,zzd])).trans ?_
  all_goals simp_all
  all_goals omega
end Go.Sim
end
section
namespace Go.Sim
set_option maxRecDepth 10000
set_option maxHeartbeats 8000000
theorem qJ5 (T:Tab) (hT:HU T) (p:AProduct) (hn:p.Fees.l.length≤maxLen) (ho : ∀f∈p.Fees.l,f.ok) {k:KC (PV×Bool)} {r:Option (PV×Bool)} {fr:Fr} {H:Heap} (hr:qfq 2 k r) (h0:gc [1,3] 0 ⟨fr,H⟩=⟨[(3,(.d (I (0:Int)))),(1,(.p 0 0 0))],[some (.box (K1 19) (.d p.dv))]⟩) :
    kC T.env 0 fr H (.h (.loop [1,3] qmn,k))=brn (p.Fees.l.any (qf0)) (.h (r,k (.exit 0) [(51,.d (.b false)),(3,(.d (I (p.Fees.l.length:Int)))),(1,(.p 0 0 0))] [some (.box (K1 19) (.d p.dv))])):=by
  have hm:=mxl
  rw[qcc p.Fees.l (fun i _=>⟨[(3,(.d (I (i:Int)))),(1,(.p 0 0 0))],[some (.box (K1 19) (.d p.dv))]⟩) (fun _ _=>True) (fun i _ x c=>if (qf0) x=true then r else c ()) (fun _=>k (.exit 0) [(51,.d (.b false)),(3,(.d (I (p.Fees.l.length:Int)))),(1,(.p 0 0 0))] [some (.box (K1 19) (.d p.dv))]) ?_ ?_ h0 trivial]
  · rw[qgR (qf0) r]
    · cases p.Fees.l.any (qf0)<;>rfl
    · exact fun _ _ _ _=>rfl
  · intro B _ _ _
    simp[qmn]
  · intro B _ i _ hi _ c hc
    have h1:(i:Int)<p.Fees.l.length:=by omega
    have h3:=wr1 (i:=i) (by omega)
    have o1:=ho _ (zzs hi)
    have e0:=qsc T hT p.Fees.l[i].When o1.2.2.1
    have e1:=qsc T hT p.Fees.l[i].Amount o1.2.2.2
    simp[qmn,h1,hi];repeat' (refine qbs (fun h => ?_) (fun h => ?_)<;>(try simp at h)<;>(try simp[h,h1,hi,h3,e0,e1]))
    all_goals first
      | (have e:(qf0) p.Fees.l[i]=true:=by
           simp[qf0,grX, *];try omega
         rw[if_pos e];exact hr _ _ (by simp[Fr.get]) (by simp[qaE,gh]))
      | (have e : ¬(qf0) p.Fees.l[i]=true:=by
           simp[qf0,grX, *];try omega
         rw[if_neg e];exact hc () _ _ trivial (by simp[gc,Fr.keep,qae,qab,qad,PV.refs,qaf,gcH,qag,Obj.refs,PV.ren,Obj.ren,Heap.obj,Fr.ren,gh,zzd]))
theorem qCz (T:Tab) (hT:HU T) (p:AProduct) (hn:p.Rules.l.length≤maxLen) (ho : ∀f∈p.Rules.l,f.ok) {k:KC (PV×Bool)} {r:Option (PV×Bool)} {fr:Fr} {H:Heap} (hr:qfq 2 k r) (h0:gc [1,4] 0 ⟨fr,H⟩=⟨[(4,(.d (I (0:Int)))),(1,(.p 0 0 0))],[some (.box (K1 19) (.d p.dv))]⟩) :
    kC T.env 0 fr H (.h (.loop [1,4] qlN,k))=brn (p.Rules.l.any (qgc)) (.h (r,k (.exit 2) [(84,.d (.b false)),(4,(.d (I (p.Rules.l.length:Int)))),(1,(.p 0 0 0))] [some (.box (K1 19) (.d p.dv))])):=by
  have hm:=mxl
  rw[qcc p.Rules.l (fun i _=>⟨[(4,(.d (I (i:Int)))),(1,(.p 0 0 0))],[some (.box (K1 19) (.d p.dv))]⟩) (fun _ _=>True) (fun i _ x c=>if (qgc) x=true then r else c ()) (fun _=>k (.exit 2) [(84,.d (.b false)),(4,(.d (I (p.Rules.l.length:Int)))),(1,(.p 0 0 0))] [some (.box (K1 19) (.d p.dv))]) ?_ ?_ h0 trivial]
  · rw[qgR (qgc) r]
    · cases p.Rules.l.any (qgc)<;>rfl
    · exact fun _ _ _ _=>rfl
  · intro B _ _ _
    simp[qlN]
  · intro B _ i _ hi _ c hc
    have h1:(i:Int)<p.Rules.l.length:=by omega
    have h3:=wr1 (i:=i) (by omega)
    have o1:=ho _ (zzs hi)
    have e1:=qsc T hT p.Rules.l[i].Amount o1.2.2
    simp[qlN,h1,hi];repeat' (refine qbs (fun h => ?_) (fun h => ?_)<;>(try simp at h)<;>(try simp[h,h1,hi,h3,e1]))
    all_goals first
      | (have e:(qgc) p.Rules.l[i]=true:=by
           simp[qgc,grX, *];try omega
         rw[if_pos e];exact hr _ _ (by simp[Fr.get]) (by simp[qaE,gh]))
      | (have e : ¬(qgc) p.Rules.l[i]=true:=by
           simp[qgc,grX, *];try omega
         rw[if_neg e];exact hc () _ _ trivial (by simp[gc,Fr.keep,qae,qab,qad,PV.refs,qaf,gcH,qag,Obj.refs,PV.ren,Obj.ren,Heap.obj,Fr.ren,gh,zzd]))
theorem qJI (T:Tab) (hT:HU T) (p:AProduct) (hp:p.ok):T.val 1095 [p.dv]=some (.d (.b (qfg p)),false):=by
  rw[qaY T (hT 1095 qgY rfl) rfl];have lp0:=fun k fr H => @qJ5 T hT p (hp.2.2.2.2.2.2.2.2.2.1).1 (hp.2.2.2.2.2.2.2.2.2.1).2 k (some (.d (.b true),false)) fr H
  have lp1:=fun k fr H => @qCz T hT p (hp.2.2.2.2.2.2.2.2.2.2).1 (hp.2.2.2.2.2.2.2.2.2.2).2 k (some (.d (.b true),false)) fr H
  obtain⟨q0,hq0⟩ : ∃q,p.Fees.l.any qf0=q:=⟨_,rfl⟩;obtain⟨q1,hq1⟩ : ∃q,p.Rules.l.any qgc=q:=⟨_,rfl⟩;simp only[hq0] at lp0;simp only[hq1] at lp1;have hs:qfg p=(decide (100<p.Name.length)||decide (100<p.Currency.length)||decide (100<p.Calendar.length)||decide (20<p.Credit.Tiers.l.length)||decide (20<p.Debit.Tiers.l.length)||decide (10<p.Fees.l.length)||decide (10<p.Rules.l.length)||q0||q1):=by rw[qfg,hq0,hq1]
  clear hq0 hq1
  simp[qgY,Fr.ofArgs];repeat' first
    | (refine qbs (fun h => ?_) (fun h => ?_)<;>(try simp at h)<;>(try simp[h]))
    |refine (lp0 _ _ _ (by simp[qhr,qhw,qhv]) (by simp[gc,Fr.keep,qae,qab,qad,PV.refs,qaf,gcH,qag,Obj.refs,PV.ren,Obj.ren,Heap.obj,Fr.ren,gh,zzd])).trans ?_
    |refine (lp1 _ _ _ (by simp[qhr,qhw,qhv]) (by simp[gc,Fr.keep,qae,qab,qad,PV.refs,qaf,gcH,qag,Obj.refs,PV.ren,Obj.ren,Heap.obj,Fr.ren,gh,zzd])).trans ?_
  all_goals simp_all
  all_goals omega
theorem qGs (T:Tab) (hT:HU T) (b:ABooks) (hn:b.Products.l.length≤maxLen) (ho : ∀f∈b.Products.l,f.ok) {k:KC (PV×Bool)} {r:Option (PV×Bool)} {fr:Fr} {H:Heap} (hr:qfq 2 k r) (h0:gc [1,3] 0 ⟨fr,H⟩=⟨[(3,(.d (I (0:Int)))),(1,(.p 0 0 0))],[some (.box (K1 22) (.d b.dv))]⟩) :
    kC T.env 0 fr H (.h (.loop [1,3] qnu,k))=brn (b.Products.l.any (qfg)) (.h (r,k (.exit 0) [(55,.d (.b false)),(3,(.d (I (b.Products.l.length:Int)))),(1,(.p 0 0 0))] [some (.box (K1 22) (.d b.dv))])):=by
  have hm:=mxl
  rw[qcc b.Products.l (fun i _=>⟨[(3,(.d (I (i:Int)))),(1,(.p 0 0 0))],[some (.box (K1 22) (.d b.dv))]⟩) (fun _ _=>True) (fun i _ x c=>if (qfg) x=true then r else c ()) (fun _=>k (.exit 0) [(55,.d (.b false)),(3,(.d (I (b.Products.l.length:Int)))),(1,(.p 0 0 0))] [some (.box (K1 22) (.d b.dv))]) ?_ ?_ h0 trivial]
  · rw[qgR (qfg) r]
    · cases b.Products.l.any (qfg)<;>rfl
    · exact fun _ _ _ _=>rfl
  · intro B _ _ _
    simp[qnu]
  · intro B _ i _ hi _ c hc
    have h1:(i:Int)<b.Products.l.length:=by omega
    have h3:=wr1 (i:=i) (by omega)
    have e1:=qJI T hT b.Products.l[i] (ho _ (zzs hi))
    obtain⟨q,hq⟩ : ∃q,qfg b.Products.l[i]=q:=⟨_,rfl⟩;rw[hq] at e1;simp[qnu,h1,hi,e1];repeat' (refine qbs (fun h => ?_) (fun h => ?_)<;>(try simp at h)<;>(try simp[h3]))
    all_goals first
      | (have e:(qfg) b.Products.l[i]=true:=by
           simp[*];try omega
         rw[if_pos e];exact hr _ _ (by simp[Fr.get]) (by simp[qaE,gh]))
      | (have e : ¬(qfg) b.Products.l[i]=true:=by
           simp[*];try omega
         rw[if_neg e];exact hc () _ _ trivial (by simp[gc,Fr.keep,qae,qab,qad,PV.refs,qaf,gcH,qag,Obj.refs,PV.ren,Obj.ren,Heap.obj,Fr.ren,gh,zzd]))
theorem qJa (T:Tab) (hT:HU T) (b:ABooks) (hn:b.Journal.l.length≤maxLen) (ho : ∀f∈b.Journal.l,f.ok) {k:KC (PV×Bool)} {r:Option (PV×Bool)} {fr:Fr} {H:Heap} (hr:qfq 2 k r) (h0:gc [1,4] 0 ⟨fr,H⟩=⟨[(4,(.d (I (0:Int)))),(1,(.p 0 0 0))],[some (.box (K1 22) (.d b.dv))]⟩) :
    kC T.env 0 fr H (.h (.loop [1,4] qlO,k))=brn (b.Journal.l.any (qfe)) (.h (r,k (.exit 2) [(68,.d (.b false)),(4,(.d (I (b.Journal.l.length:Int)))),(1,(.p 0 0 0))] [some (.box (K1 22) (.d b.dv))])):=by
  have hm:=mxl
  rw[qcc b.Journal.l (fun i _=>⟨[(4,(.d (I (i:Int)))),(1,(.p 0 0 0))],[some (.box (K1 22) (.d b.dv))]⟩) (fun _ _=>True) (fun i _ x c=>if (qfe) x=true then r else c ()) (fun _=>k (.exit 2) [(68,.d (.b false)),(4,(.d (I (b.Journal.l.length:Int)))),(1,(.p 0 0 0))] [some (.box (K1 22) (.d b.dv))]) ?_ ?_ h0 trivial]
  · rw[qgR (qfe) r]
    · cases b.Journal.l.any (qfe)<;>rfl
    · exact fun _ _ _ _=>rfl
  · intro B _ _ _
    simp[qlO]
  · intro B _ i _ hi _ c hc
    have h1:(i:Int)<b.Journal.l.length:=by omega
    have h3:=wr1 (i:=i) (by omega)
    have e1:=qBM T hT b.Journal.l[i] (ho _ (zzs hi))
    obtain⟨q,hq⟩ : ∃q,qfe b.Journal.l[i]=q:=⟨_,rfl⟩;rw[hq] at e1;simp[qlO,h1,hi,e1];repeat' (refine qbs (fun h => ?_) (fun h => ?_)<;>(try simp at h)<;>(try simp[h3]))
    all_goals first
      | (have e:(qfe) b.Journal.l[i]=true:=by
           simp[*];try omega
         rw[if_pos e];exact hr _ _ (by simp[Fr.get]) (by simp[qaE,gh]))
      | (have e : ¬(qfe) b.Journal.l[i]=true:=by
           simp[*];try omega
         rw[if_neg e];exact hc () _ _ trivial (by simp[gc,Fr.keep,qae,qab,qad,PV.refs,qaf,gcH,qag,Obj.refs,PV.ren,Obj.ren,Heap.obj,Fr.ren,gh,zzd]))
theorem qAk (T:Tab) (b:ABooks) (hn:b.Calendars.l.length≤maxLen) {k:KC (PV×Bool)} {r:Option (PV×Bool)} {fr:Fr} {H:Heap} (hr:qfq 2 k r) (h0:gc [1,5] 0 ⟨fr,H⟩=⟨[(5,(.d (I (0:Int)))),(1,(.p 0 0 0))],[some (.box (K1 22) (.d b.dv))]⟩) :
    kC T.env 0 fr H (.h (.loop [1,5] qms,k))=brn (b.Calendars.l.any (qf1)) (.h (r,k (.exit 4) [(81,.d (.b false)),(5,(.d (I (b.Calendars.l.length:Int)))),(1,(.p 0 0 0))] [some (.box (K1 22) (.d b.dv))])):=by
  have hm:=mxl
  rw[qcc b.Calendars.l (fun i _=>⟨[(5,(.d (I (i:Int)))),(1,(.p 0 0 0))],[some (.box (K1 22) (.d b.dv))]⟩) (fun _ _=>True) (fun i _ x c=>if (qf1) x=true then r else c ()) (fun _=>k (.exit 4) [(81,.d (.b false)),(5,(.d (I (b.Calendars.l.length:Int)))),(1,(.p 0 0 0))] [some (.box (K1 22) (.d b.dv))]) ?_ ?_ h0 trivial]
  · rw[qgR (qf1) r]
    · cases b.Calendars.l.any (qf1)<;>rfl
    · exact fun _ _ _ _=>rfl
  · intro B _ _ _
    simp[qms]
  · intro B _ i _ hi _ c hc
    have h1:(i:Int)<b.Calendars.l.length:=by omega
    have h3:=wr1 (i:=i) (by omega)
    simp[qms,h1,hi];repeat' (refine qbs (fun h => ?_) (fun h => ?_)<;>(try simp at h)<;>(try simp[h,h1,hi,h3]))
    all_goals first
      | (have e:(qf1) b.Calendars.l[i]=true:=by
           simp[qf1, *];try omega
         rw[if_pos e];exact hr _ _ (by simp[Fr.get]) (by simp[qaE,gh]))
      | (have e : ¬(qf1) b.Calendars.l[i]=true:=by
           simp[qf1, *];try omega
         rw[if_neg e];exact hc () _ _ trivial (by simp[gc,Fr.keep,qae,qab,qad,PV.refs,qaf,gcH,qag,Obj.refs,PV.ren,Obj.ren,Heap.obj,Fr.ren,gh,zzd]))
theorem qJs (T:Tab) (hT:HU T) (b:ABooks) (hb:b.ok):T.val 1090 [b.dv]=some (.d (.b (qhi b)),false):=by
  rw[qaY T (hT 1090 qha rfl) rfl];have lp0:=fun k fr H => @qGs T hT b (hb.2.2.2.2.1).1 (hb.2.2.2.2.1).2 k (some (.d (.b true),false)) fr H
  have lp1:=fun k fr H => @qJa T hT b (hb.2.2.2.2.2.2.1).1 (hb.2.2.2.2.2.2.1).2 k (some (.d (.b true),false)) fr H
  have lp2:=fun k fr H => @qAk T b (hb.2.1).1 k (some (.d (.b true),false)) fr H
  have e:=qBt T hT b.Holds.l b.Holds.t (hb.2.2.2.2.2.2.2.1).1
  obtain⟨q0,hq0⟩ : ∃q,b.Products.l.any qfg=q:=⟨_,rfl⟩;obtain⟨q1,hq1⟩ : ∃q,b.Journal.l.any qfe=q:=⟨_,rfl⟩;obtain⟨q2,hq2⟩ : ∃q,b.Calendars.l.any qf1=q:=⟨_,rfl⟩;obtain⟨q3,hq3⟩ : ∃q,qi2 b.Holds.l=q:=⟨_,rfl⟩;simp only[hq0] at lp0;simp only[hq1] at lp1;simp only[hq2] at lp2;simp only[hq3] at e;have hs:qhi b=(decide (20<b.Currencies.l.length)||decide (10<b.Calendars.l.length)||decide (60<b.Chart.l.length)||decide (20<b.Products.l.length)||decide (40<b.Accounts.l.length)||decide (150<b.Journal.l.length)||q3||decide (100<b.Blocks.l.length)||q0||q1||q2):=by rw[qhi,hq0,hq1,hq2,hq3]
  clear hq0 hq1 hq2 hq3
  simp[qha,Fr.ofArgs];repeat' first
    | (refine qbs (fun h => ?_) (fun h => ?_)<;>(try simp at h)<;>(try simp[h,e]))
    |refine (lp0 _ _ _ (by simp[qhr,qhw,qhv]) (by simp[gc,Fr.keep,qae,qab,qad,PV.refs,qaf,gcH,qag,Obj.refs,PV.ren,Obj.ren,Heap.obj,Fr.ren,gh,zzd])).trans ?_
    |refine (lp1 _ _ _ (by simp[qhr,qhw,qhv]) (by simp[gc,Fr.keep,qae,qab,qad,PV.refs,qaf,gcH,qag,Obj.refs,PV.ren,Obj.ren,Heap.obj,Fr.ren,gh,zzd])).trans ?_
    |refine (lp2 _ _ _ (by simp[qhr,qhw,qhv]) (by simp[gc,Fr.keep,qae,qab,qad,PV.refs,qaf,gcH,qag,Obj.refs,PV.ren,Obj.ren,Heap.obj,Fr.ren,gh,zzd])).trans ?_
  all_goals simp_all
  all_goals omega
end Go.Sim
end
section
namespace Go.Sim
set_option maxRecDepth 10000
set_option maxHeartbeats 4000000
structure MvY (Y:Nat→List PV→Heap→Option (PV×Heap)) (σ:Type) (HS:σ→Heap) (m o pj pa:Nat) (j:List AEntry) (t:Bool) (acc:Int) (P:σ→Prop) (f:σ→AEntry→ALeg→σ):Prop where
 len : ∀s,(HS s).length=m
 cl : ∀s,Cl (HS s)
 oj : ∀s J,Heap.obj (HS s++J) pj=some (.box K0 (.d (.l (K1 10) (j.map AEntry.dv) t)))
 oa : ∀s J,Heap.obj (HS s++J) pa=some (.box K0 (.d (I acc)))
 lo:o<m∧pj<m∧pa<m
 hp : ∀s e x,P s→e∈j→x∈e.Legs.l→P (f s e x)
 y : ∀s e x,P s→e∈j→x∈e.Legs.l→x.Account=acc→Y o [.d e.dv,.d (I x.Amount)] (HS s++[some (.box (K1 10) (.d e.dv)),some (.box (K1 3) (.d x.dv))])=some (.d (.b true),HS (f s e x)++[some (.box (K1 10) (.d e.dv)),some (.box (K1 3) (.d x.dv))])
def mvL {σ:Type} (acc:Int) (f:σ→AEntry→ALeg→σ) (e:AEntry) (_:Nat) (s:σ) (x:ALeg):σ:=if x.Account=acc then f s e x else s
def mvE {σ:Type} (acc:Int) (f:σ→AEntry→ALeg→σ) (_:Nat) (s:σ) (e:AEntry):σ:=qaS (mvL acc f e) 0 s e.Legs.l
section
variable {Y : Nat → List PV → Heap → Option (PV × Heap)} {σ : Type} {HS : σ → Heap} {m o pj pa : Nat} {j : List AEntry} {t : Bool} {acc : Int} {P : σ → Prop} {f : σ → AEntry → ALeg → σ}
theorem qJl (T:Tab) (h:MvY Y σ HS m o pj pa j t acc P f) (e:AEntry) (he:e∈j) (hn:e.Legs.l.length≤maxLen) (oi:Nat) (s0:σ) (hs0:P s0) {k:KC (PV×Heap)} {fr:Fr} {H:Heap}
  (h0:gc [0,2,5,8,9,10,15,16,17] m ⟨fr,H⟩=⟨[(17,.d (I 0)),(16,.d (I e.Legs.l.length)),(15,.d (.l (K1 3) (e.Legs.l.map ALeg.dv) e.Legs.t)),(10,.d (I oi)),(9,.d (I j.length)),(8,.d (.l (K1 10) (j.map AEntry.dv) t)),(5,.p m 0 0),(2,.p pa 0 0),(0,.h o)],HS s0++[some (.box (K1 10) (.d e.dv))]⟩) :
  kC (T.envY Y) m fr H (.h (.loop [0,2,5,8,9,10,15,16,17] qny,k))=k (.exit 2) [(18,.d (.b false)),(17,.d (I e.Legs.l.length)),(16,.d (I e.Legs.l.length)),(15,.d (.l (K1 3) (e.Legs.l.map ALeg.dv) e.Legs.t)),(10,.d (I oi)),(9,.d (I j.length)),(8,.d (.l (K1 10) (j.map AEntry.dv) t)),(5,.p m 0 0),(2,.p pa 0 0),(0,.h o)] (HS (qaS (mvL acc f e) 0 s0 e.Legs.l)++[some (.box (K1 10) (.d e.dv))]):=by
 have hm:=mxl
 rw[qcc e.Legs.l (fun i (s:σ)=>⟨[(17,.d (I i)),(16,.d (I e.Legs.l.length)),(15,.d (.l (K1 3) (e.Legs.l.map ALeg.dv) e.Legs.t)),(10,.d (I oi)),(9,.d (I j.length)),(8,.d (.l (K1 10) (j.map AEntry.dv) t)),(5,.p m 0 0),(2,.p pa 0 0),(0,.h o)],HS s++[some (.box (K1 10) (.d e.dv))]⟩) (fun _ s=>P s) (fun i s x c=>c (mvL acc f e i s x)) (fun s=>k (.exit 2) [(18,.d (.b false)),(17,.d (I e.Legs.l.length)),(16,.d (I e.Legs.l.length)),(15,.d (.l (K1 3) (e.Legs.l.map ALeg.dv) e.Legs.t)),(10,.d (I oi)),(9,.d (I j.length)),(8,.d (.l (K1 10) (j.map AEntry.dv) t)),(5,.p m 0 0),(2,.p pa 0 0),(0,.h o)] (HS s++[some (.box (K1 10) (.d e.dv))])) ?_ ?_ h0 hs0]
 ·rw[qg3 (mvL acc f e) _ _ (fun _ _ _ _=>rfl)]
 ·intro B _ s _;simp[qny]
 ·intro B _ i s hi hs c hc;have h1:(i:Int)<e.Legs.l.length:=by omega
  have h3:=wr1 (i:=i) (by omega)
  have hx:e.Legs.l[i]∈e.Legs.l:=zzs hi
  have hl:=h.len s
  have hoa:=h.oa s
  have ho0 : ∀J,Heap.obj (HS s++J) m=Heap.obj J 0:=fun J=>by rw[←hl];exact qoe _ _
  have ho1 : ∀J,Heap.obj (HS s++J) (m+1)=Heap.obj J 1:=fun J=>by rw[←hl];exact qyb _ _ 1
  have hp1 : ∀J v,Heap.put (HS s++J) (m+1) v=HS s++Heap.put J 1 v:=fun J v=>by rw[←hl];exact qtn _ _ _ 1
  simp[qny,h1,hi,hl,hoa,ho1,hp1];refine qbs (fun g => ?_) (fun g => ?_)
  ·have g':e.Legs.l[i].Account=acc:=by simpa using g
   have hy:=h.y s e e.Legs.l[i] hs he hx g'
   have hs':=h.hp s e e.Legs.l[i] hs he hx
   have hl':=h.len (f s e e.Legs.l[i])
   simp[g,h3,hl,ho0,ho1,hp1,hy,↓qBs,qEj];have e1:mvL acc f e i s e.Legs.l[i]=f s e e.Legs.l[i]:=by simp[mvL,g']
   rw[e1];refine hc _ _ _ hs' ?_;rw[←hl',qq5 _ (h.cl _) rfl (by simp[Fr.keep,qab,gh,PV.refs]) (by simp[Fr.keep,qab,gh,PV.refs,hl'];have:=h.lo;omega) (by simp[Fr.keep,qab,gh,PV.refs,hl'])]
   simp[Fr.keep,gh,hl']
  ·have g' : ¬e.Legs.l[i].Account=acc:=by simpa using g
   simp[g,h3,hl,hp1];have e1:mvL acc f e i s e.Legs.l[i]=s:=by simp[mvL,g']
   rw[e1];refine hc _ _ _ hs ?_;rw[←hl,qq5 _ (h.cl _) rfl (by simp[Fr.keep,qab,gh,PV.refs]) (by simp[Fr.keep,qab,gh,PV.refs,hl];have:=h.lo;omega) (by simp[Fr.keep,qab,gh,PV.refs,hl])]
   simp[Fr.keep,gh,hl]
theorem qAt (h:MvY Y σ HS m o pj pa j t acc P f) {e:AEntry} (he:e∈j) {s:σ} (hs:P s):P (qaS (mvL acc f e) 0 s e.Legs.l):=by
 have key : ∀(l:List ALeg) (i:Nat) (s:σ),P s→(∀x∈l,x∈e.Legs.l)→P (qaS (mvL acc f e) i s l):=by
  intro l;induction l with
  |nil=>intro i s hs _;exact hs
  |cons x l ih =>
   intro i s hs hl;rw[qaS];refine ih _ _ ?_ fun y hy=>hl y (zzi _ hy)
   unfold mvL;split
   ·exact h.hp s e x hs he (hl x (zzr ..))
   ·exact hs
 exact key _ _ _ hs fun _ hx=>hx
theorem qI3 (T:Tab) (h:MvY Y σ HS m o pj pa j t acc P f) (hn:j.length≤maxLen) (ho : ∀e∈j,e.Legs.l.length≤maxLen) (s0:σ) (hs0:P s0) {k:KC (PV×Heap)} {fr:Fr} {H:Heap}
  (h0:gc [0,2,8,9,10] m ⟨fr,H⟩=⟨[(10,.d (I 0)),(9,.d (I j.length)),(8,.d (.l (K1 10) (j.map AEntry.dv) t)),(2,.p pa 0 0),(0,.h o)],HS s0⟩) :
  kC (T.envY Y) m fr H (.h (.loop [0,2,8,9,10] qne,k))=k (.exit 0) [(11,.d (.b false)),(10,.d (I j.length)),(9,.d (I j.length)),(8,.d (.l (K1 10) (j.map AEntry.dv) t)),(2,.p pa 0 0),(0,.h o)] (HS (qaS (mvE acc f) 0 s0 j)):=by
 have hm:=mxl
 rw[qcc j (fun i (s:σ)=>⟨[(10,.d (I i)),(9,.d (I j.length)),(8,.d (.l (K1 10) (j.map AEntry.dv) t)),(2,.p pa 0 0),(0,.h o)],HS s⟩) (fun _ s=>P s) (fun i s x c=>c (mvE acc f i s x)) (fun s=>k (.exit 0) [(11,.d (.b false)),(10,.d (I j.length)),(9,.d (I j.length)),(8,.d (.l (K1 10) (j.map AEntry.dv) t)),(2,.p pa 0 0),(0,.h o)] (HS s)) ?_ ?_ h0 hs0]
 ·rw[qg3 (mvE acc f) _ _ (fun _ _ _ _=>rfl)]
 ·intro B _ s _;simp[qne]
 ·intro B _ i s hi hs c hc;have h1:(i:Int)<j.length:=by omega
  have h3:=wr1 (i:=i) (by omega)
  have he:j[i]∈j:=zzs hi
  have hl:=h.len s
  have ho0 : ∀J,Heap.obj (HS s++J) m=Heap.obj J 0:=fun J=>by rw[←hl];exact qoe _ _
  have hp0 : ∀J v,Heap.put (HS s++J) m v=HS s++Heap.put J 0 v:=fun J v=>by rw[←hl];exact qCn _ _ _
  have lp:=fun k fr H => @qJl Y σ HS m o pj pa j t acc P f T h j[i] he (ho _ he) i s hs k fr H
  simp[qne,h1,hi,hl,ho0,hp0];rw[lp]
  ·simp[h3];have hs':=qAt h he hs
   have hl':=h.len (qaS (mvL acc f j[i]) 0 s j[i].Legs.l)
   refine (hc _ _ _ hs' ?_).trans rfl;rw[←hl',qs1 _ (h.cl _) (by simp[Fr.keep,qab,gh,PV.refs,hl'];have:=h.lo;omega)]
   simp[Fr.keep,gh]
  ·rw[←hl,qq5 _ (h.cl _) rfl (by simp[Fr.keep,qab,gh,PV.refs]) (by simp[Fr.keep,qab,gh,PV.refs,hl];have:=h.lo;omega) (by simp[Fr.keep,qab,gh,PV.refs,hl])]
   simp[Fr.keep,gh,hl]
theorem qIm (T:Tab) (hT:HU T) (h:MvY Y σ HS m o pj pa j t acc P f) (hn:j.length≤maxLen) (ho : ∀e∈j,e.Legs.l.length≤maxLen) (s0:σ) (hs0:P s0) :
  T.it Y 59 [.h o,.p pj 0 0,.p pa 0 0] (HS s0)=some (.t [],HS (qaS (mvE acc f) 0 s0 j)):=by
 rw[qJB T (hT 59 F59 rfl) Y rfl];have lp:=fun k fr H => @qI3 Y σ HS m o pj pa j t acc P f T h hn ho s0 hs0 k fr H
 have hl:=h.len s0
 have hoj:Heap.obj (HS s0) pj=some (.box K0 (.d (.l (K1 10) (j.map AEntry.dv) t))):=by have:=h.oj s0 [];rwa [List.append_nil] at this
 simp[F59,Fr.ofArgs,hl,hoj];rw[lp]
 ·simp[qAj];rw[hl,←h.len (qaS (mvE acc f) 0 s0 j)];exact qoi (h.cl _) (by simp[qaZ,PV.refs,PV.refsL])
 ·rw[←hl,qry _ (h.cl _) (by simp[Fr.keep,qab,gh,PV.refs,hl];have:=h.lo;omega)]
  simp[Fr.keep,gh]
end
end Go.Sim
end
section
namespace Go.Sim
set_option maxRecDepth 10000
set_option maxHeartbeats 4000000
theorem qEB (T:Tab) (hT:HU T) (j:List AEntry) (t:Bool) (acc:Int) (k0:K) (v0:DV):T.ref 50 [.d (.l (K1 10) (j.map AEntry.dv) t),.d (I acc)] [some (.box k0 (.d v0))]=some (.f 59 [.p 1 0 0,.p 2 0 0],[some (.box k0 (.d v0)),some (.box K0 (.d (.l (K1 10) (j.map AEntry.dv) t))),some (.box K0 (.d (I acc)))]):=by
 rw[qiG T (hT 50 F50 rfl) rfl];simp[F50,Fr.ofArgs,qhq,gcV,qae,qad,qag,Obj.refs,PV.refs,PV.refsL,qaf,gcH,PV.ren,PV.renL,Obj.ren,Heap.obj,zzd]
def qid (j:List AEntry) (t:Bool) (acc:Int) (s:Int):Heap:=[some (.box K0 (.d (I s))),some (.box K0 (.d (.l (K1 10) (j.map AEntry.dv) t))),some (.box K0 (.d (I acc))),some (.lp 0 none),some .df]
def fOf (s:Int) (_:AEntry) (x:ALeg):Int:=w64 (s-x.Amount)
def ofP (j:List AEntry) (acc:Int):Int:=qaS (mvE acc fOf) 0 0 j
theorem qEx (T:Tab) (_hT:HU T) (j:List AEntry) (t:Bool) (acc:Int):MvY (qiW T.env qp2 qsr [(5,.p 0 0 0)] 3 [11,12]) Int (qid j t acc) 5 3 1 2 j t acc (fun _=>True) fOf where
 len _:=rfl
 cl _:=by intro r h;simp[qid,qad,qag,Obj.refs,PV.refs] at h
 oj _ _:=rfl
 oa _ _:=rfl
 lo:=⟨by decide,by decide,by decide⟩
 hp _ _ _ _ _ _:=trivial
 y s e x _ _ _ _:=by
  rw[qJU rfl rfl];simp[qp2,qsr,qid,qgj];exact qoi (H:=qid j t acc (fOf s e x)++[some (.box (K1 10) (.d e.dv)),some (.box (K1 3) (.d x.dv))]) (by intro r h;simp[qid,qad,qag,Obj.refs,PV.refs] at h) (v:=.d (.b true)) (by simp[PV.refs])
theorem qHm (T:Tab) (hT:HU T) (l:List AEntry) (t:Bool) (acc:Int) (hn:l.length≤maxLen) (ho : ∀e∈l,e.Legs.l.length≤maxLen):T.val 715 [.l (K1 10) (l.map AEntry.dv) t,I acc]=some (.d (I (ofP l acc)),false):=by
 rw[qaY T (hT 715 qld rfl) rfl];have e:=qEB T hT l t acc K0 (I 0)
 have e2:=qIm T hT (qEx T hT l t acc) hn ho 0 trivial
 simp[qld,Fr.ofArgs,e,↓qDR,↓qJF,qG3,Fr.only];refine (congrArg (fun z=>bo z _) e2).trans ?_
 simp[qlF,qid,fin,runG];rfl
theorem qma (a b:Int):w64 (w64 a+b)=w64 (a+b):=by
 unfold w64;rw[IntKind.wrap_i64,IntKind.wrap_i64,IntKind.wrap_i64];omega
theorem qGP (a b:Int):w64 (a+w64 b)=w64 (a+b):=by rw[Int.add_comm,qma,Int.add_comm]
theorem qJT (a:Int):w64 (w64 a)=w64 a:=by have:=qma a 0;simpa using this
theorem qqP (acc s:Int) : ∀(l:List ALeg) (i:Nat) (d:Int),qaS (qcW acc) i (w64 (s+d)) l=w64 (s+qaS (qcW acc) i (w64 d) l)
 | [],i,d=>by simp only[qaS];rw[qGP]
 |x::l,i,d=>by
  simp only[qaS];by_cases h:(x.Account==acc)=true
  ·have e1:qcW acc i (w64 (s+d)) x=w64 (s+(d-x.Amount)):=by
    simp only[qcW,h,if_true,Int.sub_eq_add_neg,qma,Int.add_assoc]
   have e2:qcW acc i (w64 d) x=w64 (d-x.Amount):=by
    simp only[qcW,h,if_true,Int.sub_eq_add_neg,qma]
   rw[e1,e2,qqP acc s l (i+1)]
  ·have e1:qcW acc i (w64 (s+d)) x=w64 (s+d):=by simp only[qcW,if_neg h]
   have e2:qcW acc i (w64 d) x=w64 d:=by simp only[qcW,if_neg h]
   rw[e1,e2,qqP acc s l (i+1)]
theorem qto (acc:Int) (e:AEntry) : ∀(l:List ALeg) (i:Nat) (s:Int),qaS (mvL acc fOf e) i s l=qaS (qcW acc) i s l
 | [],_,_=>rfl
 |x::l,i,s=>by
  have:mvL acc fOf e i s x=qcW acc i s x:=by by_cases h:x.Account=acc<;>simp[mvL,qcW,fOf,h]
  rw[qaS,qaS,this,qto acc e l]
theorem qsR (acc:Int) : ∀(l:List AEntry) (i:Nat) (n:Int),w64 n=n→qaS (mvE acc fOf) i n l=qaS (qlY acc) i n l
 | [],_,_,_=>rfl
 |e::l,i,n,h=>by
  have e1:mvE acc fOf i n e=qlY acc i n e:=by
   unfold mvE qlY qtQ;rw[qto]
   have:=qqP acc n e.Legs.l 0 0
   rw[Int.add_zero,h,show w64 0=0 from rfl] at this
   exact this
  rw[qaS,qaS,e1];exact qsR acc l (i+1) _ (qJT _)
theorem qDc (l:List AEntry) (acc:Int):ofP l acc=ofR l acc:=qsR acc l 0 0 rfl
end Go.Sim
end
end
section
namespace Go.Sim
theorem qyl : ∀x:List UInt8,Op.bytesLess x x=false
 | []=>rfl
 |a::x=>by simp[Op.bytesLess,qyl x]
theorem qtI : ∀{x y z:List UInt8},Op.bytesLess x y=true→Op.bytesLess y z=true→Op.bytesLess x z=true
 | _,[],_,h,_=>by cases ‹List UInt8› <;> simp[Op.bytesLess] at h
 | _,_::_,[],_,h=>by simp[Op.bytesLess] at h
 | [],_::_,_::_,_,_=>rfl
 |a::x,b::y,c::z,h,k=>by
  simp only[Op.bytesLess,Bool.or_eq_true,zzf,zzq,beq_iff_eq] at h k⊢;rcases h with h|⟨rfl,h⟩
  ·rcases k with k|⟨rfl,k⟩
   ·exact .inl (UInt8.lt_trans h k)
   ·exact .inl h
  ·rcases k with k|⟨rfl,k⟩
   ·exact .inl k
   ·exact .inr ⟨rfl,qtI h k⟩
theorem qxF : ∀{x y:List UInt8},Op.bytesLess x y=false→Op.bytesLess y x=false→x=y
 | [],[],_,_=>rfl
 | [],_::_,h,_=>by simp[Op.bytesLess] at h
 | _::_,[],_,h=>by simp[Op.bytesLess] at h
 |a::x,b::y,h,k=>by
  simp only[Op.bytesLess,Bool.or_eq_false_iff,Bool.and_eq_false_iff,decide_eq_false_iff_not,beq_eq_false_iff_ne] at h k;have e:a=b:=UInt8.le_antisymm (UInt8.not_lt.1 k.1) (UInt8.not_lt.1 h.1)
  subst e;have h2:=h.2
  have k2:=k.2
  simp only[ne_eq,not_true_eq_false,false_or] at h2 k2;rw[qxF h2 k2]
def ltL (a b:ALeg):Bool:=decide (a.Account<b.Account)||((a.Account==b.Account)&&Op.bytesLess a.Currency b.Currency)
def qo4 (a b:ALeg):Prop:=a.Account=b.Account∧a.Currency=b.Currency
theorem qFk {a b:ALeg}:ltL a b=true↔a.Account<b.Account∨(a.Account=b.Account∧Op.bytesLess a.Currency b.Currency=true):=by simp[ltL]
theorem qJV {a b c:ALeg} (h:ltL a b=true) (k:ltL b c=true):ltL a c=true:=by
 rw[qFk] at *
 rcases h with h|⟨h1,h2⟩
 ·rcases k with k|⟨k1,k2⟩<;>exact .inl (by omega)
 ·rcases k with k|⟨k1,k2⟩
  ·exact .inl (by omega)
  ·exact .inr ⟨by omega,qtI h2 k2⟩
theorem qyq {a b:ALeg} (h:ltL a b=false) (k:ltL b a=false):qo4 a b:=by
 simp only[ltL,Bool.or_eq_false_iff,decide_eq_false_iff_not,Bool.and_eq_false_iff,beq_eq_false_iff_ne] at h k;have e:a.Account=b.Account:=by omega
 refine⟨e,qxF ?_ ?_⟩
 ·rcases h.2 with h|h
  ·exact absurd e h
  ·exact h
 ·rcases k.2 with k|k
  ·exact absurd e.symm k
  ·exact k
theorem qGW {a b c:ALeg} (h:qo4 a b):ltL c a=ltL c b:=by simp[ltL,h.1,h.2]
def qhM (y x:ALeg):ALeg:=⟨y.Account,w64 (y.Amount+x.Amount),y.Currency⟩
def qci:List ALeg→ALeg→List ALeg
 | [],x=>[x]
 |y::r,x=>if ltL y x=true then y::qci r x else if ltL x y=true then x::y::r else qhM y x::r
abbrev Srt (l:List ALeg):Prop:=l.Pairwise fun a b=>ltL a b=true
theorem qo2 : ∀{l:List ALeg} {x y:ALeg},y∈qci l x→y∈l∨qo4 y x
 | [],x,y,h=>by simp[qci] at h;subst h;exact .inr ⟨rfl,rfl⟩
 |z::r,x,y,h=>by
  unfold qci at h;split at h
  ·rcases List.mem_cons.1 h with rfl|h
   ·exact .inl (zzr ..)
   ·rcases qo2 h with h|h
    ·exact .inl (zzi _ h)
    ·exact .inr h
  ·split at h
   ·rcases List.mem_cons.1 h with rfl|h
    ·exact .inr ⟨rfl,rfl⟩
    ·exact .inl h
   ·rename_i h1 h2;rcases List.mem_cons.1 h with rfl|h
    ·have k:=qyq (by simpa using h1) (by simpa using h2)
     exact .inr k
    ·exact .inl (zzi _ h)
theorem qyO : ∀{l:List ALeg} (x:ALeg),Srt l→Srt (qci l x)
 | [],x,_=>by simp[qci,Srt]
 |z::r,x,h=>by
  have h':=List.pairwise_cons.1 h
  unfold qci;split
  ·rename_i hz;refine List.pairwise_cons.2 ⟨fun y hy => ?_,qyO x h'.2⟩
   rcases qo2 hy with hy|hy
   ·exact h'.1 y hy
   ·rw[qGW hy];exact hz
  ·split
   ·rename_i hz;refine List.pairwise_cons.2 ⟨fun y hy => ?_,h⟩
    rcases List.mem_cons.1 hy with rfl|hy
    ·exact hz
    ·exact qJV hz (h'.1 y hy)
   ·exact List.pairwise_cons.2 ⟨fun y hy=>(h'.1 y hy),h'.2⟩
theorem qrm : ∀(l:List ALeg) (x:ALeg),(qci l x).length≤l.length+1
 | [],x=>by simp[qci]
 |z::r,x=>by
  unfold qci
  have:=qrm r x
  split
  ·simp;omega
  ·split<;>simp
theorem qJX (l:List ALeg) (x:ALeg):qci l x≠[]:=by
 cases l with
 |nil=>simp[qci]
 |cons z r=>unfold qci;split<;>(try split)<;>simp
def plc (l:List ALeg) (x:ALeg):Nat:=(l.takeWhile fun y=>ltL y x).length
theorem qou : ∀(l:List ALeg) (x:ALeg),(∀h:plc l x<l.length,ltL x l[plc l x]=true)→qci l x=l.take (plc l x)++x::l.drop (plc l x)
 | [],x,_=>rfl
 |z::r,x,h=>by
  unfold qci;by_cases hz:ltL z x=true
  ·have e:plc (z::r) x=plc r x+1:=by simp[plc,hz]
   simp only[e] at h⊢;rw[if_pos hz,qou r x (fun hk=>by simpa using h (by simpa using hk))]
   rfl
  ·have e:plc (z::r) x=0:=by simp[plc,hz]
   simp only[e] at h⊢;rw[if_neg hz,if_pos (by simpa using h (by simp))]
   rfl
theorem qt5 : ∀(l:List ALeg) (x:ALeg) (h:plc l x<l.length),ltL x l[plc l x]=false→qci l x=l.set (plc l x) (qhM l[plc l x] x)
 | [],x,h,_=>by simp at h
 |z::r,x,h,hn=>by
  unfold qci;by_cases hz:ltL z x=true
  ·have e:plc (z::r) x=plc r x+1:=by simp[plc,hz]
   simp only[e] at h hn⊢;rw[if_pos hz,qt5 r x (by simpa using h) (by simpa using hn)]
   simp
  ·have e:plc (z::r) x=0:=by simp[plc,hz]
   simp only[e] at h hn⊢;rw[if_neg hz,if_neg (by simpa using hn)]
   simp
theorem qsT (l:List ALeg) (x:ALeg):plc l x≤l.length:=(List.takeWhile_sublist _).length_le
theorem qtU : ∀(l:List ALeg) (x:ALeg) (j:Nat) (h:j<l.length),j<plc l x→ltL l[j] x=true
 | [],x,j,h,_=>by simp at h
 |z::r,x,j,h,hj=>by
  by_cases hz:ltL z x=true
  ·have e:plc (z::r) x=plc r x+1:=by simp[plc,hz]
   cases j with
   |zero=>exact hz
   |succ j=>simp only[List.getElem_cons_succ];exact qtU r x j _ (by omega)
  ·have e:plc (z::r) x=0:=by simp[plc,hz]
   omega
theorem qr7 : ∀(l:List ALeg) (x:ALeg) (h:plc l x<l.length),ltL l[plc l x] x=false
 | [],x,h=>by simp at h
 |z::r,x,h=>by
  by_cases hz:ltL z x=true
  ·have e:plc (z::r) x=plc r x+1:=by simp[plc,hz]
   simp only[e] at h⊢;simp only[List.getElem_cons_succ];exact qr7 r x (by simpa using h)
  ·have e:plc (z::r) x=0:=by simp[plc,hz]
   simp only[e];simpa using hz
end Go.Sim
end
section
namespace Go.Sim
end Go.Sim
end
section
open Go.Sim
attribute [local simp ↓] qep qeN qen qe4 qdI qdy qeG qdl sqK blK lpK qeX qeO qdo qc2 qe3 qdA qdx qdv qeA qeJ qdp qes qdn qc1 qet qd2 qeb qdR qdm qdU qef qc5 qev qdW qdV qd6 qeU qer qdZ qda qdG qdK qdw qdF qdN qea qe9 qc9 qdY qeV qeL qeq qcQ qeZ qdS qcZ qed qdH qdk qeM qeW qdz qdX qem qe7 qdi qc7 qeT qec qe5 qe8 qe2 qee qdh qeD qde qeh qeK qdL qcn qdD qcK qcN qc6 qeI qeC qe1 qeF qeY qd5 qei qeH qd1 qdB qez qey qdC qd8 qew qdO qfo qfJ qfv qfI qfC qfL qfd qfD qfF qfN qfE qfx qgl qf2
attribute [local simp] qb5 qdt qex qdq qd0 qeR qdg qd7 qds qdr qeB rd IOp.adds qaj gh nid rgK rdS qeS qc4 qc8 qdc qeE qfa qdJ qd3 qdP qdf qe6 qdj qdQ qej qek qc3 qdb qdM qdT qe0 qeg qfl qfk qfs qcr qfb qfp qfh qfR qfM qfH qfP
section
namespace Go.Sim
set_option maxRecDepth 10000
set_option maxHeartbeats 4000000
theorem qn3 {R:Type} (a b:List UInt8) {d:DV→Option R}:bo (qaV .lss (.d (.s a)) (.d (.s b))) (.h d)=d (.b (Op.bytesLess a b)):=rfl
end Go.Sim
end
section
namespace Go.Sim
set_option maxRecDepth 10000
set_option maxHeartbeats 4000000
end Go.Sim
end
section
namespace Go.Sim
set_option maxRecDepth 10000
set_option maxHeartbeats 4000000
theorem qlG (k:IntKind) (n:Int):DV.cells (.i k n)=[.i k n]:=rfl
end Go.Sim
end
section
namespace Go.Sim
set_option maxRecDepth 10000
set_option maxHeartbeats 4000000
def zM (x:ALeg):ALeg:=⟨0,x.Amount,x.Currency⟩
def mdv (x:ALeg):DV:=.a [.s x.Currency,I x.Amount]
def Z0 (g:List ALeg):Prop:=∀y∈g,y.Account=0
theorem qiK (x:ALeg):(mdv x).cells=[.s x.Currency,I x.Amount]:=rfl
theorem qvq (x:ALeg):fits (K1 2) (.d (mdv x))=true:=rfl
theorem qFV {g:List ALeg} (x:ALeg) (h:Z0 g):Z0 (qci g (zM x)):=fun y hy=>by
 rcases qo2 hy with h1|h1
 ·exact h y h1
 ·exact h1.1
end Go.Sim
end
section
namespace Go.Sim
set_option maxRecDepth 10000
set_option maxHeartbeats 4000000
theorem qzc (g:List ALeg) (h:g≠[]):qaU (K1 2) (g.map mdv) = .r 0 (K1 2) 0 g.length false:=by
 cases g with
 |nil=>exact absurd rfl h
 |cons a b=>simp[qaU]
theorem quu (g:List ALeg) (h:g≠[]):qaT (K1 2) (g.map mdv)=[some (.sl (K1 2) 0 (g.map mdv))]:=by
 cases g with
 |nil=>exact absurd rfl h
 |cons a b=>simp[qaT]
def qbp (g:List ALeg) (x:ALeg):List ALeg:=qci g (zM x)
theorem qlJ (l:List DV):(PV.d (.a l)).cells=l.map .d:=rfl
theorem qm6 (l:List DV):DV.cells (.a l)=l:=rfl
end Go.Sim
end
section
namespace Go.Sim
set_option maxRecDepth 10000
set_option maxHeartbeats 4000000
end Go.Sim
end
section
namespace Go.Sim
set_option maxRecDepth 10000
set_option maxHeartbeats 4000000
section
variable {R : Type} {H : Heap} {id : Nat} {q : PV → Heap → Option R} {k : K} {b : Nat}
theorem qlD {o off len:Nat} {k':K} {ys:List DV}:bo2 (qcM H id k b (.r o k' off len false) ys) (.h q)=match H.obj o with
  |some (.sl k'' ro es)=>chk ((K.eq k k'&&K.eq k k''&&decide (off+len≤es.length)&&decide ((len+ys.length)*b≤2^47))=true) (.h (chk (ro≤off+len) (.h (q (.r id k 0 (len+ys.length) false) ((H.put o none).put id (some (.sl k (ro-off) ((es.drop off).take len++ys))))))))
  | _=>none:=by
 simp only[qcM,qcl,qaW,qb5,Bool.true_or,if_true,zzg,if_false];cases H.obj o with
 |none=>rfl
 |some w =>
  cases w with
  |sl k'' ro es =>
   simp only[chk];by_cases h:(K.eq k k'&&K.eq k k''&&decide (off+len≤es.length)&&decide ((len+ys.length)*b≤2^47))=true
   ·simp only[h,if_true];by_cases g:ro≤off+len
    ·simp only[g,if_true];rfl
    ·simp only[g,if_false];rfl
   ·simp only[h,if_false,zzg];rfl
  | _=>rfl
end
theorem qJd {α:Type} (m:List α) (x:α) (p n:Nat) (hp:p≤n) (hn:m.length=n):(((m.take p).take p++[x]).take (p+1))++(m.drop p).take (n-p)=m.take p++x::m.drop p:=by
 subst hn;have a:(m.take p++[x]).take (p+1)=m.take p++[x]:=List.take_of_length_le (by simp;omega)
 have b:(m.drop p).take (m.length-p)=m.drop p:=List.take_of_length_le (by simp)
 rw[List.take_take,Nat.min_self,a,b];simp
theorem qFi {α:Type} (m:List α) (x:α) (p n:Nat) (hp:p<n) (hn:m.length=n):(((m.take p).take p++[x]).take (p+1))++(m.drop (p+1)).take (n-(p+1))=m.set p x:=by
 subst hn;have a:(m.take p++[x]).take (p+1)=m.take p++[x]:=List.take_of_length_le (by simp;omega)
 have b:(m.drop (p+1)).take (m.length-(p+1))=m.drop (p+1):=List.take_of_length_le (by simp)
 rw[List.take_take,Nat.min_self,a,b,List.set_eq_take_append_cons_drop,if_pos hp];simp
end Go.Sim
end
section
namespace Go.Sim
set_option maxRecDepth 10000
set_option maxHeartbeats 4000000
theorem qn2 {a b:ALeg} (ha:a.Account=0) (hb:b.Account=0):ltL a b=Op.bytesLess a.Currency b.Currency:=by
 simp[ltL,ha,hb]
theorem qLA (T:Tab) (l g:List ALeg) (hz0:Z0 g) (t:Bool) (i:Nat) (hi:i<l.length) (_hn:l.length<1000000) (hg:g.length<1000000) {k:KC (PV×Bool)} {r:Option (PV×Bool)} {fr:Fr} {H:Heap}
  (he : ∀b,k (.exit 2) [(30,.d (.b b)),(6,.d (I (plc g (zM l[i])))),(5,.d (.l (K1 2) [] true)),(4,.d (I i)),(3,.r 0 (K1 2) 0 g.length false),(0,.d (.l (K1 3) (l.map ALeg.dv) t))] [some (.sl (K1 2) 0 (g.map mdv))]=r)
  (h0:gc [0,3,4,5,6] 0 ⟨fr,H⟩=⟨[(6,.d (I 0)),(5,.d (.l (K1 2) [] true)),(4,.d (I i)),(3,.r 0 (K1 2) 0 g.length false),(0,.d (.l (K1 3) (l.map ALeg.dv) t))],[some (.sl (K1 2) 0 (g.map mdv))]⟩) :
  kC T.env 0 fr H (.h (.loop [0,3,4,5,6] qiB,k))=r:=by
 have h1:(i:Int)<l.length:=by omega
 refine qAV (fun j:Nat=>⟨[(6,.d (I j)),(5,.d (.l (K1 2) [] true)),(4,.d (I i)),(3,.r 0 (K1 2) 0 g.length false),(0,.d (.l (K1 3) (l.map ALeg.dv) t))],[some (.sl (K1 2) 0 (g.map mdv))]⟩) (fun j=>j) (plc g (zM l[i])) ?_ ?_ (by rw[h0];rfl)
 ·intro B _;by_cases hp:plc g (zM l[i])<g.length
  ·have hat:=qr7 g (zM l[i]) hp
   rw[qn2 (hz0 _ (zzs _)) rfl] at hat;have ec:(zM l[i]).Currency=l[i].Currency:=rfl
   rw[ec] at hat;generalize plc g (zM l[i])=p at *
   have g1:(p:Int)<g.length:=by omega
   simp[qiB,↓qbq,↓qbr,↓qba,↓qbi,↓qbc,qbg,↓qbb,↓qbo,↓qbf,↓qbe,↓qbd,↓qbn,↓qbJ,qa5,writeS,touchS,qau,qaQ,chg,qa1,runs,qaO,qa3,PV.refs,IOp.okD,Nat.testBit,hp,g1,hi,h1,↓qgV,↓qkS,qiK,↓qn3,hat,he]
  ·have hp' : ¬((plc g (zM l[i]):Int)<g.length):=by omega
   simp[qiB,↓qbq,↓qbr,↓qba,↓qbi,↓qbc,qbg,↓qbb,↓qbo,↓qbf,↓qbe,↓qbd,↓qbn,↓qbJ,qa5,writeS,touchS,qau,qaQ,chg,qa1,runs,qaO,qa3,PV.refs,PV.refsL,IOp.okD,Nat.testBit,hp',he]
 ·intro B _ j hj c hc;have hjg:j<g.length:=Nat.lt_of_lt_of_le hj (qsT _ _)
  have hlt:=qtU g (zM l[i]) j hjg hj
  rw[qn2 (hz0 _ (zzs _)) rfl] at hlt;have ec:(zM l[i]).Currency=l[i].Currency:=rfl
  rw[ec] at hlt;have g1:(j:Int)<g.length:=by omega
  have w:IntKind.i64.wrap ((j:Int)+1)=(j:Int)+1:=wrI (by omega) (by omega)
  simp[qiB,↓qbq,↓qbr,↓qba,↓qbi,↓qbc,qbg,↓qbb,↓qbo,↓qbf,↓qbe,↓qbd,↓qbn,↓qbJ,qa5,writeS,touchS,qau,qaQ,chg,qa1,runs,qaO,qa3,PV.refs,IOp.okD,Nat.testBit,hjg,g1,hi,h1,w,↓qgV,↓qkS,qiK,↓qn3,hlt];exact hc _ _ (by simp[gc,Fr.keep,qae,qab,qad,PV.refs,qaf,gcH,qag,Obj.refs,PV.ren,Obj.ren,Heap.obj,Fr.ren,gh,zzd])
theorem qLw (T:Tab) (l:List ALeg) (t:Bool) (hn:l.length<1000000) (ho : ∀x∈l,w64 x.Amount=x.Amount) {k:KC (PV×Bool)} {fr:Fr} {H:Heap}
  (h0:gc [0,3,4] 0 ⟨fr,H⟩=⟨[(4,.d (I 0)),(3,.d (.l (K1 2) [] true)),(0,.d (.l (K1 3) (l.map ALeg.dv) t))],[]⟩) :
  kC T.env 0 fr H (.h (.loop [0,3,4] qia,k))=k (.exit 0) [(11,.d (.b false)),(4,.d (I l.length)),(3,qaU (K1 2) ((l.foldl qbp []).map mdv)),(0,.d (.l (K1 3) (l.map ALeg.dv) t))] (qaT (K1 2) ((l.foldl qbp []).map mdv)):=by
 rw[qcc l (fun i (g:List ALeg)=>⟨[(4,.d (I i)),(3,qaU (K1 2) (g.map mdv)),(0,.d (.l (K1 3) (l.map ALeg.dv) t))],qaT (K1 2) (g.map mdv)⟩) (fun i g=>(Srt g∧Z0 g)∧g.length≤i) (fun _ g x c=>c (qbp g x)) (fun g=>k (.exit 0) [(11,.d (.b false)),(4,.d (I l.length)),(3,qaU (K1 2) (g.map mdv)),(0,.d (.l (K1 3) (l.map ALeg.dv) t))] (qaT (K1 2) (g.map mdv))) ?_ ?_ (b0:=[]) h0 ⟨⟨List.Pairwise.nil,fun _ h=>by cases h⟩,zzt _⟩]
 ·rw[qg3 (fun _ g x=>qbp g x) _ _ (fun _ _ _ _=>rfl)]
  have : ∀(l:List ALeg) (i:Nat) (g:List ALeg),qaS (fun _ g x=>qbp g x) i g l=l.foldl qbp g:=by
   intro l;induction l with
   |nil=>intro _ _;rfl
   |cons x l ih=>intro i g;rw[qaS,ih,List.foldl_cons]
  rw[this]
 ·intro B _ g _;cases g with
  |nil=>simp[qia,qaU,qaT]
  |cons y g=>simp[qia,qaU,qaT]
 ·intro B _ i g hi hg c hc;have h1:(i:Int)<l.length:=by omega
  have h3:=wr1 (i:=i) (by omega)
  have hg':(Srt (qbp g l[i])∧Z0 (qbp g l[i]))∧(qbp g l[i]).length≤i+1:=⟨⟨qyO _ hg.1.1,qFV _ hg.1.2⟩,Nat.le_trans (qrm _ _) (by omega)⟩
  have hc':=fun fr H=>hc (qbp g l[i]) fr H hg'
  clear hc
  cases g with
  |nil =>
   have hz:qbp [] l[i]=[zM l[i]]:=rfl
   rw[hz] at hc'⊢;simp[qia,qaU,qaT,h1];rw[qlH];simp[gc,Fr.keep,qae,qab,qad,PV.refs,gcH,PV.ren,Obj.ren,Heap.obj,Fr.ren,gh];simp[qiB,↓qbq,↓qbr,↓qba,↓qbi,↓qbc,qbg,↓qbb,↓qbo,↓qbf,↓qbe,↓qbd,↓qbn,↓qbJ,qa5,writeS,touchS,qau,qaQ,chg,runs,qaO,qa3,PV.refs,PV.refsL,IOp.okD,Nat.testBit,h1,hi,h3,↓qLe,↓qlD,qjZ,qjW,qks,qno,qli,putAt,mkA,qfY,List.drop_succ_cons,List.drop_zero,List.take_succ_cons,List.take_zero,List.cons_append,List.nil_append];exact hc' _ _ (by simp[gc,Fr.keep,qae,qab,qad,PV.refs,qaf,gcH,qag,Obj.refs,PV.ren,Obj.ren,Heap.obj,Fr.ren,gh,zzd,qaU,qaT,mdv,zM])
  |cons y g =>
   obtain⟨gl,hgl⟩ : ∃gl,y::g=gl:=⟨_,rfl⟩;have hne:y::g≠[]:=by simp
   rw[hgl] at hg hg' hc' hne⊢;simp only[qzc _ hne,quu _ hne];have hne2:qbp gl l[i]≠[]:=qJX gl (zM l[i])
   simp only[qzc _ hne2,quu _ hne2] at hc';have hlen:gl.length<1000000:=by omega
   have lp:=fun k r he fr H => @qLA T l gl hg.1.2 t i hi hn hlen k r fr H he
   have hpl:=qsT gl (zM l[i])
   simp[qia,h1];refine lp _ _ (fun b => ?_) _ _ (by simp[gc,Fr.keep,qae,qab,qad,PV.refs,qaf,gcH,qag,Obj.refs,PV.ren,Obj.ren,Heap.obj,Fr.ren,gh,zzd])
   have hae : ∀p (h:p<gl.length),gl[p].Account=0:=fun p h=>hg.1.2 _ (zzs _)
   have hwx:=ho l[i] (zzs _)
   obtain⟨x,hx⟩ : ∃x,l[i]=x:=⟨_,rfl⟩;simp only[hx] at hc' hpl hg' hwx⊢;have ht:(gl.map mdv).take gl.length=gl.map mdv:=List.take_of_length_le (by simp)
   by_cases hp:plc gl (zM x)<gl.length
   ·have hat:=qr7 gl (zM x) hp
    by_cases hl:ltL (zM x) gl[plc gl (zM x)]=true
    ·have hins:qbp gl x=gl.take (plc gl (zM x))++zM x::gl.drop (plc gl (zM x)):=qou gl (zM x) (fun _=>hl)
     rw[hins] at hc'⊢;rw[qn2 rfl (hae _ hp)] at hl;have hq:(gl[plc gl (zM x)].Currency==x.Currency)=false:=by
      have ec:(zM x).Currency=x.Currency:=rfl
      rw[ec] at hl;have:gl[plc gl (zM x)].Currency≠x.Currency:=fun h=>by rw[h,qyl] at hl;cases hl
      simpa using this
     generalize plc gl (zM x)=p at *
     have g1:(p:Int)<gl.length:=by omega
     have g2:(p:Int)≤gl.length:=by omega
     have g4:p*24≤140737488355328:=by omega
     have g5:(p+1)*24≤140737488355328:=by omega
     have g6:(p+1+(gl.length-p))*24≤140737488355328:=by omega
     have g7:p+(gl.length-p)=gl.length:=by omega
     have g8:min p gl.length=p:=by omega
     have g9:((gl.map mdv).take p).length=p:=by simp;omega
     simp[↓qbq,↓qbr,↓qba,↓qbi,↓qbc,qbg,↓qbb,↓qbo,↓qbf,↓qbe,↓qbd,↓qbn,↓qbJ,qa5,writeS,touchS,qau,qaQ,chg,qa1,runs,qaO,qa3,PV.refs,IOp.okD,Nat.testBit,hx,hi,h1,h3,hp,hpl,g1,g2,g4,g5,g6,g7,g9,hq,qiK,↓qgV,↓qkS,↓qso,↓qlD,qjZ,qjW,qks,qno,qli,putAt,mkA,qfY,List.drop_succ_cons,List.drop_zero,List.take_succ_cons,List.take_zero,List.cons_append,List.nil_append];refine hc' _ _ ?_;have hm:DV.a [.s x.Currency,.i .i64 x.Amount]=mdv (zM x):=rfl
     rw[hm,qJd (gl.map mdv) (mdv (zM x)) p gl.length (by omega) (by simp)]
     simp[gc,Fr.keep,qae,qab,qad,PV.refs,qaf,gcH,qag,Obj.refs,PV.ren,Obj.ren,Heap.obj,Fr.ren,gh,zzd];omega
    ·have hl':ltL (zM x) gl[plc gl (zM x)]=false:=by simpa using hl
     have hins:qbp gl x=gl.set (plc gl (zM x)) (qhM gl[plc gl (zM x)] (zM x)):=qt5 gl (zM x) hp hl'
     rw[hins] at hc'⊢;have hk:=qyq hl' hat
     have hq:gl[plc gl (zM x)].Currency=x.Currency:=hk.2.symm
     have hq2:(gl[plc gl (zM x)].Currency==x.Currency)=true:=by simpa using hq
     generalize plc gl (zM x)=p at *
     have g1:(p:Int)<gl.length:=by omega
     have g2:(p:Int)≤gl.length:=by omega
     have g4:p*24≤140737488355328:=by omega
     have g5:(p+1)*24≤140737488355328:=by omega
     have g6:(p+1+(gl.length-(p+1)))*24≤140737488355328:=by omega
     have g7:p+(gl.length-p)=gl.length:=by omega
     have g7':p+1+(gl.length-(p+1))=gl.length:=by omega
     have g8:min p gl.length=p:=by omega
     have g9:((gl.map mdv).take p).length=p:=by simp;omega
     have g10:(p:Int)+1≤gl.length:=by omega
     have g11:(0:Int)≤(p:Int)+1:=by omega
     have g12:((p:Int)+1).toNat=p+1:=by omega
     have g13:gl.length*24≤140737488355328:=by omega
     have w:IntKind.i64.wrap ((p:Int)+1)=(p:Int)+1:=wrI (by omega) (by omega)
     simp[↓qbq,↓qbr,↓qba,↓qbi,↓qbc,qbg,↓qbb,↓qbo,↓qbf,↓qbe,↓qbd,↓qbn,↓qbJ,qa5,writeS,touchS,qau,qaQ,chg,qa1,runs,qaO,qa3,PV.refs,IOp.okD,Nat.testBit,hx,hi,h1,h3,hp,hpl,g1,g2,g4,g5,g7',g9,g10,g11,g13,w,hq2,qiK,↓qgV,↓qkS,↓qso,↓qlD,qjZ,qjW,qks,qno,qli,putAt,mkA,qfY,List.drop_succ_cons,List.drop_zero,List.take_succ_cons,List.take_zero,List.cons_append,List.nil_append];refine hc' _ _ ?_;have hm:DV.a [.s x.Currency,.i .i64 (IntKind.i64.wrap (x.Amount+gl[p].Amount))]=mdv (qhM gl[p] (zM x)):=by
      show _=DV.a [.s gl[p].Currency,.i .i64 (w64 (gl[p].Amount+x.Amount))]
      rw[hq,w64,Int.add_comm]
     rw[hm,qFi (gl.map mdv) (mdv (qhM gl[p] (zM x))) p gl.length (by omega) (by simp)]
     rw[show (gl.map mdv).set p (mdv (qhM gl[p] (zM x)))=(gl.set p (qhM gl[p] (zM x))).map mdv from List.map_set.symm]
     simp[gc,Fr.keep,qae,qab,qad,PV.refs,qaf,gcH,qag,Obj.refs,PV.ren,Obj.ren,Heap.obj,Fr.ren,gh,zzd]
   ·have hins:qbp gl x=gl.take (plc gl (zM x))++zM x::gl.drop (plc gl (zM x)):=qou gl (zM x) (fun h=>absurd h hp)
    rw[hins] at hc'⊢;have hpe:plc gl (zM x)=gl.length:=by omega
    rw[hpe] at hc'⊢;clear hp hpe hpl hins lp hae
    generalize hz:gl.length=n at *
    have g4:n*24≤140737488355328:=by omega
    have g5:(n+1)*24≤140737488355328:=by omega
    have g9:((gl.map mdv).take n).length=n:=by simp;omega
    simp[↓qbq,↓qbr,↓qba,↓qbi,↓qbc,qbg,↓qbb,↓qbo,↓qbf,↓qbe,↓qbd,↓qbn,↓qbJ,qa5,writeS,touchS,qau,qaQ,chg,qa1,runs,qaO,qa3,PV.refs,PV.refsL,IOp.okD,Nat.testBit,hx,hi,h1,h3,hz,g4,g5,ht,↓qso,↓qlD,qjZ,qjW,qks,qno,qli,putAt,mkA,qfY,List.drop_succ_cons,List.drop_zero,List.take_succ_cons,List.take_zero,List.cons_append,List.nil_append];refine hc' _ _ ?_;have hm:DV.a [.s x.Currency,.i .i64 x.Amount]=mdv (zM x):=rfl
    rw[hm,List.take_of_length_le (by simp;omega)]
    have a1:gl.take n=gl:=List.take_of_length_le (by omega)
    have a2:gl.drop n=[]:=List.drop_of_length_le (by omega)
    rw[a1,a2];simp[gc,Fr.keep,qae,qab,qad,PV.refs,qaf,gcH,qag,Obj.refs,PV.ren,Obj.ren,Heap.obj,Fr.ren,gh,zzd,hz]
theorem quP (T:Tab) (hP:HP T) (l:List ALeg) (t:Bool) (hn:l.length<1000000) (ho : ∀x∈l,w64 x.Amount=x.Amount):T.val 771 [.l (K1 3) (l.map ALeg.dv) t]=some (.d (.l (K1 2) ((l.foldl qbp []).map mdv) false),true):=by
 rw[qaY T (hP 771 qh9 rfl) rfl];have lp:=fun k fr H => @qLw T l t hn ho k fr H
 simp[qh9,Fr.ofArgs];refine (lp _ _ _ (by simp[gc,Fr.keep,qae,qab,qad,PV.refs,gcH,PV.ren,Obj.ren,Heap.obj,Fr.ren,gh])).trans ?_
 cases l.foldl qbp [] with
 |nil=>simp[qaU,qaT]
 |cons x g =>
  have ht:(g.map mdv).take g.length=g.map mdv:=List.take_of_length_le (by simp)
  simp[qaU,qaT,ht]
end Go.Sim
end
section
namespace Go.Sim
set_option maxRecDepth 10000
set_option maxHeartbeats 8000000
def qwd (x:ALeg):Bool:=decide (x.Account<1)||(decide (x.Amount=0)||(decide (x.Amount < -1000000000000)||decide (1000000000000<x.Amount)))
def qd4 (x:ALeg):Int:=if qwd x=true then 1 else if qoq x.Currency=true then 0 else 14
def qeQ:List ALeg→Int
 | []=>0
 |x::l=>if qd4 x=0 then qeQ l else qd4 x
def qlW (g:List ALeg):Bool:=g.all fun x=>x.Amount==0
def qjy (e:AEntry):Int:=if qnH e.Key=true then (if (qhm e.Text 32 64&&(qgn e.Booked&&(qgn e.Value&&(qgn e.Period&&(!decide (e.Kind<1)&&(!decide (14<e.Kind)&&(!decide (e.Auth<0) && !decide (3<e.Auth))))))))=true then (if e.Legs.l.length<2∨12<e.Legs.l.length then 5 else if qeQ e.Legs.l=0 then (if qlW (e.Legs.l.foldl qbp [])=true then 0 else 15) else qeQ e.Legs.l) else 1) else 4
theorem qHw (T:Tab) (hP:HP T) (x:ALeg) (hx:x.Currency.length≤maxLen):T.val 770 [x.dv]=some (.d (I (qd4 x)),false):=by
 rw[qaY T (hP 770 qiN rfl) rfl];have e:=qJe T hP x.Currency hx
 unfold qd4 qwd;simp[qiN,Fr.ofArgs];repeat' (refine qbs (fun h => ?_) (fun h => ?_)<;>(try simp at h)<;>(try simp[h,e]))
 all_goals first|omega|simp_all
theorem qxh {R:Type} (r:Int→Option R) (done:Unit→Option R) (step:Nat→Unit→ALeg→(Unit→Option R)→Option R) (hs : ∀i b x c,step i b x c=if qd4 x=0 then c () else r (qd4 x)) : ∀(i:Nat) (ls:List ALeg),rounds step done i () ls=if qeQ ls=0 then done () else r (qeQ ls)
 |i,[]=>by simp[rounds,qeQ]
 |i,x::l=>by
  rw[rounds,hs,qxh r done step hs (i+1) l,qeQ];by_cases h:qd4 x=0
  ·simp[h]
  ·simp[h]
theorem qvv (T:Tab) (hP:HP T) (e:AEntry) (hn:e.Legs.l.length≤maxLen) (ho : ∀x∈e.Legs.l,x.ok) {k:KC (PV×Bool)} {r:Int→Option (PV×Bool)} {fr:Fr} {H:Heap} (hr : ∀fr H n,fr.get 2 = .d (I n)→qaE fr=[]→k .ret fr H=r n)
  (h0:gc [1,3] 0 ⟨fr,H⟩=⟨[(3,.d (I 0)),(1,.p 0 0 0)],[some (.box (K1 10) (.d e.dv))]⟩) :
  kC T.env 0 fr H (.h (.loop [1,3] qje,k))=if qeQ e.Legs.l=0 then k (.exit 0) [(72,.d (.b false)),(3,.d (I e.Legs.l.length)),(1,.p 0 0 0)] [some (.box (K1 10) (.d e.dv))] else r (qeQ e.Legs.l):=by
 have hm:=mxl
 rw[qcc e.Legs.l (fun i _=>⟨[(3,.d (I i)),(1,.p 0 0 0)],[some (.box (K1 10) (.d e.dv))]⟩) (fun _ _=>True) (fun i _ x c=>if qd4 x=0 then c () else r (qd4 x)) (fun _=>k (.exit 0) [(72,.d (.b false)),(3,.d (I e.Legs.l.length)),(1,.p 0 0 0)] [some (.box (K1 10) (.d e.dv))]) ?_ ?_ h0 trivial]
 ·exact qxh r _ _ (fun _ _ _ _=>rfl) 0 _
 ·intro B _ _ _;simp[qje]
 ·intro B _ i _ hi _ c hc;have h1:(i:Int)<e.Legs.l.length:=by omega
  have h3:=wr1 (i:=i) (by omega)
  have ev:=qHw T hP e.Legs.l[i] (ho _ (zzs _)).2.2
  by_cases hz:qd4 e.Legs.l[i]=0
  ·rw[if_pos hz];rw[hz] at ev;simp[qje,h1,hi,h3,ev,bne];exact hc () _ _ trivial (by simp[gc,Fr.keep,qae,qab,qad,PV.refs,qaf,gcH,qag,Obj.refs,PV.ren,Obj.ren,Heap.obj,Fr.ren,gh,zzd])
  ·rw[if_neg hz];have hz':(qd4 e.Legs.l[i]==0)=false:=by simpa using hz
   simp[qje,h1,hi,ev,hz',bne];exact hr _ _ _ (by simp[Fr.get]) (by simp[qaE,gh])
theorem qv7 (T:Tab) (g:List ALeg) (hn:g.length≤100) {k:KC (PV×Bool)} {r:Option (PV×Bool)} {fr:Fr} {H:Heap} (hr : ∀fr H,fr.get 2 = .d (I 15)→qaE fr=[]→k .ret fr H=r)
  (h0:gc [5,6] 0 ⟨fr,H⟩=⟨[(6,.d (I 0)),(5,.d (.l (K1 2) (g.map mdv) false))],[]⟩) :
  kC T.env 0 fr H (.h (.loop [5,6] qlt,k))=if qlW g=true then k (.exit 2) [(90,.d (.b false)),(6,.d (I g.length)),(5,.d (.l (K1 2) (g.map mdv) false))] [] else r:=by
 rw[qcc g (fun i _=>⟨[(6,.d (I i)),(5,.d (.l (K1 2) (g.map mdv) false))],[]⟩) (fun _ _=>True) (fun i _ x c=>if (fun x:ALeg=>x.Amount==0) x=true then c () else r) (fun _=>k (.exit 2) [(90,.d (.b false)),(6,.d (I g.length)),(5,.d (.l (K1 2) (g.map mdv) false))] []) ?_ ?_ h0 trivial]
 ·rw[qnP (fun x:ALeg=>x.Amount==0) r]
  ·rfl
  ·exact fun _ _ _ _=>rfl
 ·intro B _ _ _;simp[qlt]
 ·intro B _ i _ hi _ c hc;have h1:(i:Int)<g.length:=by omega
  have h3:=wr1 (i:=i) (by omega)
  by_cases hz:g[i].Amount=0
  ·simp[qlt,h1,hi,h3,hz,qiK,bne];exact hc () _ _ trivial (by simp[gc,Fr.keep,qae,qab,qad,PV.refs,gcH,PV.ren,Obj.ren,Heap.obj,Fr.ren,gh])
  ·have hz':(g[i].Amount==0)=false:=by simpa using hz
   simp[qlt,h1,hi,hz',qiK,bne];exact hr _ _ (by simp[Fr.get]) (by simp[qaE,gh])
end Go.Sim
end
section
namespace Go.Sim
set_option maxRecDepth 10000
set_option maxHeartbeats 8000000
theorem qw6 {n:Int} (h:inK .i64 n):w64 n=n:=by
 simp only[inK,Lit.wf,IntKind.min,IntKind.max,IntKind.signed,IntKind.bits,zzf,zzq,if_true] at h;exact wrI (by omega) (by omega)
theorem qrO : ∀(l g:List ALeg),(l.foldl qbp g).length≤g.length+l.length
 | [],g=>by simp
 |x::l,g=>by
  have:=qrO l (qbp g x)
  have h2:=qrm g (zM x)
  rw[List.foldl_cons];have h3:(qbp g x).length≤g.length+1:=h2
  simp;omega
theorem qAw (T:Tab) (hP:HP T) (e:AEntry) (he:e.ok):T.val 679 [e.dv]=some (.d (I (qjy e)),false):=by
 rw[qaY T (hP 679 qcg rfl) rfl];have e1:=qFx T hP e.Key he.2.2.2.2.2.2.1
 have e2:T.val 685 [.s e.Text,I 64,.i .u8 32]=some (.d (.b (qhm e.Text 32 64)),false):=qze T hP e.Text 32 64 he.2.2.2.2.2.2.2.1
 have e3:=qoX T hP e.Booked
 have e4:=qoX T hP e.Value
 have e5:=qoX T hP e.Period
 unfold qjy;cases hk:qnH e.Key with
 |false=>rw[hk] at e1;simp[qcg,Fr.ofArgs,e1]
 |true =>
  rw[hk] at e1;cases ht:qhm e.Text 32 64 with
  |false=>rw[ht] at e2;simp[qcg,Fr.ofArgs,e1,e2]
  |true =>
   rw[ht] at e2;cases hb:qgn e.Booked with
   |false=>rw[hb] at e3;simp[qcg,Fr.ofArgs,e1,e2,e3]
   |true =>
    rw[hb] at e3;cases hv:qgn e.Value with
    |false=>rw[hv] at e4;simp[qcg,Fr.ofArgs,e1,e2,e3,e4]
    |true =>
     rw[hv] at e4;by_cases k1:e.Kind<1
     ·simp[qcg,Fr.ofArgs,e1,e2,e3,e4,k1]
     ·have k1':decide (e.Kind<1)=false:=by simpa using k1
      by_cases k2:14<e.Kind
      ·simp[qcg,Fr.ofArgs,e1,e2,e3,e4,k1,k2]
      ·have k2':decide (14<e.Kind)=false:=by simpa using k2
       by_cases a1:e.Auth<0
       ·simp[qcg,Fr.ofArgs,e1,e2,e3,e4,k1,k2,a1]
       ·have a1':decide (e.Auth<0)=false:=by simpa using a1
        by_cases a2:3<e.Auth
        ·simp[qcg,Fr.ofArgs,e1,e2,e3,e4,k1,k2,a1,a2]
        ·have a2':decide (3<e.Auth)=false:=by simpa using a2
         by_cases hz:e.Period=0
         ·have hp0:qgn 0=true:=rfl
          by_cases n1:e.Legs.l.length<2
          ·have n1':(e.Legs.l.length:Int)<2:=by omega
           simp[qcg,Fr.ofArgs,e1,e2,e3,e4,k1,k2,a1,a2,hz,hp0,n1,n1',bne]
          ·have n1' : ¬(e.Legs.l.length:Int)<2:=by omega
           by_cases n2:12<e.Legs.l.length
           ·have n2':(12:Int)<e.Legs.l.length:=by omega
            simp[qcg,Fr.ofArgs,e1,e2,e3,e4,k1,k2,a1,a2,hz,hp0,n1,n1',n2,n2',bne]
           ·have n2' : ¬(12:Int)<e.Legs.l.length:=by omega
            have e6:=quP T hP e.Legs.l e.Legs.t (by omega) (fun x hx=>qw6 (he.2.2.2.2.2.2.2.2.1.2 x hx).2.1)
            have hl:=qrO e.Legs.l []
            simp only[List.length_nil] at hl;simp[qcg,Fr.ofArgs,e1,e2,e3,e4,k1,k2,a1,a2,hz,hp0,n1,n1',n2,n2',bne];refine (qvv T hP e (by have:=he.2.2.2.2.2.2.2.2.1.1;exact this) he.2.2.2.2.2.2.2.2.1.2 (r:=fun n=>some (.d (I n),false)) (fun fr H n h hg=>by simp[h,hg,qcn]) (by simp[gc,Fr.keep,qae,qab,qad,PV.refs,qaf,gcH,qag,Obj.refs,PV.ren,Obj.ren,Heap.obj,Fr.ren,gh,zzd])).trans ?_
            by_cases g1:qeQ e.Legs.l=0
            ·rw[if_pos g1];have lp:=fun k fr H r hr h0 => @qv7 T (e.Legs.l.foldl qbp []) (by omega) k r fr H hr h0
             simp[e6,g1];rw[lp _ _ _ (some (.d (I 15),false)) (fun fr H h hg=>by simp[h,hg,qcn]) (by simp[gc,Fr.keep,qae,qab,qad,PV.refs,gcH,PV.ren,Obj.ren,Heap.obj,Fr.ren,gh])]
             cases qlW (e.Legs.l.foldl qbp []) with
             |true=>simp
             |false=>simp
            ·rw[if_neg g1];simp[g1]
         have hz':(e.Period==0)=false:=by simpa using hz
         cases hp:qgn e.Period with
         |false=>rw[hp] at e5;simp[qcg,Fr.ofArgs,e1,e2,e3,e4,k1,k2,a1,a2,e5,hz',bne]
         |true =>
          rw[hp] at e5;by_cases n1:e.Legs.l.length<2
          ·have n1':(e.Legs.l.length:Int)<2:=by omega
           simp[qcg,Fr.ofArgs,e1,e2,e3,e4,k1,k2,a1,a2,e5,hz',n1,n1',bne]
          ·have n1' : ¬(e.Legs.l.length:Int)<2:=by omega
           by_cases n2:12<e.Legs.l.length
           ·have n2':(12:Int)<e.Legs.l.length:=by omega
            simp[qcg,Fr.ofArgs,e1,e2,e3,e4,k1,k2,a1,a2,e5,hz',n1,n1',n2,n2',bne]
           ·have n2' : ¬(12:Int)<e.Legs.l.length:=by omega
            have e6:=quP T hP e.Legs.l e.Legs.t (by omega) (fun x hx=>qw6 (he.2.2.2.2.2.2.2.2.1.2 x hx).2.1)
            have hl:=qrO e.Legs.l []
            simp only[List.length_nil] at hl;simp[qcg,Fr.ofArgs,e1,e2,e3,e4,k1,k2,a1,a2,e5,hz',n1,n1',n2,n2',bne];refine (qvv T hP e (by have:=he.2.2.2.2.2.2.2.2.1.1;exact this) he.2.2.2.2.2.2.2.2.1.2 (r:=fun n=>some (.d (I n),false)) (fun fr H n h hg=>by simp[h,hg,qcn]) (by simp[gc,Fr.keep,qae,qab,qad,PV.refs,qaf,gcH,qag,Obj.refs,PV.ren,Obj.ren,Heap.obj,Fr.ren,gh,zzd])).trans ?_
            by_cases g1:qeQ e.Legs.l=0
            ·rw[if_pos g1];have lp:=fun k fr H r hr h0 => @qv7 T (e.Legs.l.foldl qbp []) (by omega) k r fr H hr h0
             simp[e6,g1];rw[lp _ _ _ (some (.d (I 15),false)) (fun fr H h hg=>by simp[h,hg,qcn]) (by simp[gc,Fr.keep,qae,qab,qad,PV.refs,gcH,PV.ren,Obj.ren,Heap.obj,Fr.ren,gh])]
             cases qlW (e.Legs.l.foldl qbp []) with
             |true=>simp
             |false=>simp
            ·rw[if_neg g1];simp[g1]
end Go.Sim
end
end
section
namespace Go.Sim
set_option maxRecDepth 10000
theorem qnm {α:Type} {f:α→DV} {P:α→Prop} : ∀{es:List DV},(∀e∈es,∃x,e=f x∧P x)→∃l:List α,es=l.map f∧∀y∈l,P y
 | [],_=>⟨[],rfl,fun y hy=>by cases hy⟩
 |e::es,h=>by
  obtain⟨x,hx,px⟩:=h e (zzr ..);obtain⟨l,hl,pl⟩:=qnm fun e' he=>h e' (zzi _ he)
  refine⟨x::l,by rw[hx,hl];rfl,fun y hy => ?_⟩
  rcases List.mem_cons.1 hy with rfl|hy
  ·exact px
  ·exact pl y hy
theorem qGp {d:Nat} {cs:List DV} {e:DV} (he:mkD (K1 3) cs=some e) (h:HsL d qwz cs) : ∃x:ALeg,e=x.dv∧x.ok:=by
 obtain⟨w1,r1,rfl,⟨a,rfl,h1⟩,c2⟩:=qaX h;obtain⟨w2,r2,rfl,⟨b,rfl,h2⟩,c3⟩:=qaX c2;obtain⟨w3,r3,rfl,⟨s,rfl,h3⟩,c4⟩:=qaX c3;obtain rfl:=qct c4;exact⟨⟨a,b,s⟩,(Option.some.inj he).symm,h1,h2,h3⟩
theorem qJL {d:Nat} {x:DV} (h:HsK d (K1 10,qk5) x) : ∃e:AEntry,x=e.dv∧e.ok:=by
 obtain⟨cs,c1,c2⟩:=h;obtain⟨w1,r1,rfl,⟨a1,rfl,h1⟩,d1⟩:=qaX c2;obtain⟨w2,r2,rfl,⟨a2,rfl,h2⟩,d2⟩:=qaX d1;obtain⟨w3,r3,rfl,⟨a3,rfl,h3⟩,d3⟩:=qaX d2;obtain⟨w4,r4,rfl,⟨a4,rfl,h4⟩,d4⟩:=qaX d3;obtain⟨w5,r5,rfl,⟨a5,rfl,h5⟩,d5⟩:=qaX d4;obtain⟨w6,r6,rfl,⟨a6,rfl,h6⟩,d6⟩:=qaX d5;obtain⟨w7,r7,rfl,⟨a7,rfl,h7⟩,d7⟩:=qaX d6;obtain⟨w8,r8,rfl,⟨a8,rfl,h8⟩,d8⟩:=qaX d7;obtain⟨w9,r9,rfl,⟨es,t,rfl,h9,_,h9b⟩,d9⟩:=qaX d8;obtain⟨w10,r10,rfl,⟨a10,rfl,h10⟩,d10⟩:=qaX d9;obtain rfl:=qct d10;obtain⟨l,rfl,hl⟩:=qnm (f:=ALeg.dv) (P:=ALeg.ok) (es:=es) fun e he=>by
  obtain⟨cs,q1,q2⟩:=h9b e he;exact qGp q1 q2
 refine⟨⟨a1,a2,a3,a4,a5,a6,a7,a8,⟨l,t⟩,a10⟩,(Option.some.inj c1).symm,h1,h2,h3,h4,h5,h6,h7,h8,⟨?_,hl⟩,h10⟩;simpa using h9
theorem qG7 (x:ALeg):(Lit.int .i64 (qd4 x)).wf=true:=by unfold qd4;split<;>(try split)<;>decide
theorem qux : ∀l:List ALeg,(Lit.int .i64 (qeQ l)).wf=true
 | []=>by decide
 |x::l=>by
  unfold qeQ;split
  ·exact qux l
  ·exact qG7 x
theorem qAT (e:AEntry):(Lit.int .i64 (qjy e)).wf=true:=by
 unfold qjy;split
 ·split
  ·split
   ·decide
   ·split
    ·split<;>decide
    ·exact qux _
  ·decide
 ·decide
theorem qLM (T:Tab) (hP:HP T):qai T 679 qqH:=by
 intro d ds hd;cases ds with
 |nil=>exact hd.elim
 |cons x ds =>
  cases ds with
  |cons=>exact hd.2.elim
  |nil =>
   obtain⟨e,rfl,he⟩:=qJL hd.1;exact⟨[I (qjy e)],false,qAw T hP e he,qfS (qAT e),trivial⟩
end Go.Sim
end
section
open Go.Sim
attribute [local simp ↓] qep qeN qen qe4 qdI qdy qeG qdl sqK blK lpK qeX qeO qdo qc2 qe3 qdA qdx qdv qeA qeJ qdp qes qdn qc1 qet qd2 qeb qdR qdm qdU qef qc5 qev qdW qdV qd6 qeU qer qdZ qda qdG qdK qdw qdF qdN qea qe9 qc9 qdY qeV qeL qeq qcQ qeZ qdS qcZ qed qdH qdk qeM qeW qdz qdX qem qe7 qdi qc7 qeT qec qe5 qe8 qe2 qee qdh qeD qde qeh qeK qdL qcn qdD qcK qcN qc6 qeI qeC qe1 qeF qeY qd5 qei qeH qd1 qdB qez qey qdC qd8 qew qdO qfo qfJ qfv qfI qfC qfL qfd qfD qfF qfN qfE qfx qgl qf2
attribute [local simp] qb5 qdt qex qdq qd0 qeR qdg qd7 qds qdr qeB rd IOp.adds qaj gh nid rgK rdS qeS qc4 qc8 qdc qeE qfa qdJ qd3 qdP qdf qe6 qdj qdQ qej qek qc3 qdb qdM qdT qe0 qeg qfl qfk qfs qcr qfb qfp qfh qfR qfM qfH qfP
section
namespace Go.Sim
set_option maxRecDepth 10000
set_option maxHeartbeats 4000000
theorem qAM {d:Nat} {cs:List DV} {e:DV} (he:mkD (K1 4) cs=some e) (h:HsL d tGl cs) : ∃x:AGl,e=x.dv∧x.ok:=by
 obtain⟨w1,r1,rfl,⟨a,rfl,h1⟩,c2⟩:=qaX h;obtain⟨w2,r2,rfl,⟨b,rfl,h2⟩,c3⟩:=qaX c2;obtain⟨w3,r3,rfl,⟨c,rfl,h3⟩,c4⟩:=qaX c3;obtain⟨w4,r4,rfl,⟨s,rfl,h4⟩,c5⟩:=qaX c4;obtain rfl:=qct c5;exact⟨⟨a,b,c,s⟩,(Option.some.inj he).symm,h1,h2,h3,h4⟩
theorem qK6 {d:Nat} {es:List DV} {t:Bool} (h:HsK d (K0,[.l (K1 4) 3518437208883 tGl]) (.l (K1 4) es t)) : ∃l:List AGl,es=l.map AGl.dv∧∀y∈l,y.ok:=by
 obtain⟨cs,q1,q2⟩:=h;obtain⟨w,r,rfl,⟨es',t',e,h3,h4,h5⟩,d3⟩:=qaX q2;obtain rfl:=qct d3;have e1:w = .l (K1 4) es t:=Option.some.inj q1
 rw[e1] at e;cases e;exact qnm fun e he=>by
  obtain⟨cs,q1,q2⟩:=h5 e he;exact qAM q1 q2
theorem qEc (T:Tab) (hS:HS T):qai T 1102 qtP:=qat (hS 1102 qj9 rfl) qKC fun _=>qak (quY T hS) (qaq)
abbrev AW (l:List DV):Prop:=∀x∈l,∃n,x=I n∧(Lit.int .i64 n).wf=true
theorem quW (T:Tab) {Q:PV×Bool→Prop} (gl:List AGl) (t:Bool) (root:Int) (i:Nat) (hi:i<gl.length) (_hgl:gl.length≤3518437208883) (L:List DV) (hL:AW L) (hl:L.length≤3518437208883) {k:KC (PV×Bool)} {fr:Fr} {H:Heap} (j0:Nat) (hj0:j0≤L.length)
  (hk : ∀j:Nat,j≤L.length→Anx Q (k (.exit 2) [(49,.d (.b false)),(7,.d (I j)),(6,.d (I i)),(5,qaU K0 L),(1,.d (I root)),(0,.d (.l (K1 4) (gl.map AGl.dv) t))] (qaT K0 L)))
  (h0:gc [0,1,5,6,7] 0 ⟨fr,H⟩=⟨[(7,.d (I j0)),(6,.d (I i)),(5,qaU K0 L),(1,.d (I root)),(0,.d (.l (K1 4) (gl.map AGl.dv) t))],qaT K0 L⟩) :
  Anx Q (kC T.env 0 fr H (.h (.loop [0,1,5,6,7] qnM,k))):=by
 refine qfj (fun j:Nat=>⟨[(7,.d (I j)),(6,.d (I i)),(5,qaU K0 L),(1,.d (I root)),(0,.d (.l (K1 4) (gl.map AGl.dv) t))],qaT K0 L⟩) (fun j=>j≤L.length) id ?_ j0 hj0 h0
 rintro B-j hj hx;have hkj:=hk j hj
 cases j with
 |zero =>
  simp only[Int.ofNat_zero] at hkj;simp[qnM,↓qbq,↓qbr,↓qba,↓qbi,↓qbc,qbg,↓qbb,↓qbo,↓qbf,↓qbe,↓qbd,↓qbn,qa5,writeS,touchS,qau,qaQ,chg,runs,qaO,qa3,PV.refs,PV.refsL,IOp.okD,Nat.testBit];exact hkj
 |succ j =>
  have hov:qaU K0 L = .r 0 K0 0 L.length false:=by cases L with|nil=>simp at hj|cons x r=>rfl
  have hoo:qaT K0 L=[some (.sl K0 0 L)]:=by cases L with|nil=>simp at hj|cons x r=>rfl
  have hx':=hx j (by omega) (by show j<j+1;omega)
  simp only[hov,hoo] at hkj hx'⊢;obtain⟨n,hn,hnw⟩:=hL L[j] (zzs (by omega))
  have hn':L[j]? = some (I n):=by rw[zze (by omega),hn]
  have sd : ∀v,qcq K0 v 0 K0=some v:=fun v=>rfl
  have c1:((j+1:Nat):Int)=(j:Int)+1:=by omega
  have g1:(0:Int)<(j:Int)+1:=by omega
  have g2:IntKind.i64.wrap ((j:Int)+1-1)=j:=by rw[show (j:Int)+1-1=j by omega];exact wrI (by omega) (by omega)
  have g6:IntKind.i64.wrap (j:Int)=j:=wrI (by omega) (by omega)
  have g3:(j:Int)<L.length:=by omega
  have g4:(i:Int)<gl.length:=by omega
  have g5:j<L.length:=by omega
  rw[c1] at hkj⊢;simp[qnM,↓qbq,↓qbr,↓qba,↓qbi,↓qbc,qbg,↓qbb,↓qbo,↓qbf,↓qbe,↓qbd,↓qbn,qa5,writeS,touchS,qau,qaQ,chg,qa1,runs,qaO,qa3,PV.refs,IOp.okD,Nat.testBit,g1,g6,g3,g4,g5,↓qgV,hi,hn,sd];refine qfU (fun h => ?_) (fun h => ?_)
  ·simp[g6];exact hx' _ _ (by simp[gc,Fr.keep,qae,qab,qad,PV.refs,qaf,gcH,qag,Obj.refs,PV.ren,Obj.ren,Heap.obj,Fr.ren,gh,zzd])
  ·exact hkj
section
variable {R : Type} {H : Heap} {id : Nat} {k : K} {b : Nat} {q : PV → Heap → Option R}
theorem qh5 {o off len:Nat} {k':K}:bo2 (qcM H id k b (.r o k' off len false) []) (.h q)=match H.obj o with
  |some (.sl k'' ro es)=>chk ((K.eq k k'&&K.eq k k''&&decide (off+len≤es.length)&&decide (len*b≤2^47))=true) (.h (chk (ro≤off+len) (.h (q (.r id k 0 len false) ((H.put o none).put id (some (.sl k (ro-off) ((es.drop off).take len))))))))
  | _=>none:=by
 simp only[qcM,qcl,qaW,qb5,if_true,chk,List.length_nil,Nat.add_zero,List.isEmpty_nil,Bool.or_true];cases H.obj o with
 |none=>rfl
 |some x =>
  cases x with
  |sl k'' ro es =>
   simp only[List.append_nil,zzg,if_false];split
   ·split<;>rfl
   ·rfl
  | _=>rfl
theorem qiz {o off len:Nat} {k':K} {t:Bool} {ys:List DV} (hy:ys≠[]):bo2 (qcM H id k b (.r o k' off len t) ys) (.h q)=match H.obj o with
  |some (.sl k'' ro es)=>chk ((K.eq k k'&&K.eq k k''&&decide (off+len≤es.length)&&decide ((len+ys.length)*b≤2^47))=true) (.h (brn t (.h (q (.r id k 0 (len+ys.length) false) (H.put id (some (.sl k 0 ((es.drop off).take len++ys)))),chk (ro≤off+len) (.h (q (.r id k 0 (len+ys.length) false) ((H.put o none).put id (some (.sl k (ro-off) ((es.drop off).take len++ys))))))))))
  | _=>none:=by
 cases ys with
 |nil=>exact absurd rfl hy
 |cons y ys=>exact qfd
end
theorem qmu {k:K} : ∀{l:List DV},l≠[]→qaU k l = .r 0 k 0 l.length false∧qaT k l=[some (.sl k 0 l)]
 | [],h=>absurd rfl h
 | _::_,_=>⟨rfl,rfl⟩
theorem qAe (H:Heap):slA H K0 (.d (.l K0 [] true)) none (some (.d (I 0))) none=some (.d (.l K0 [] true)):=rfl
theorem qGl (H:Heap):slA H K0 (.d (.l K0 [] true)) (some (.d (I 0))) none none=some (.d (.l K0 [] true)):=rfl
theorem qxx (L:List DV) (j:Nat) (hj:j≤L.length) (H:Heap):slA (some (.sl K0 0 L)::H) K0 (.r 0 K0 0 L.length false) none (some (.d (I j))) none=some (.r 0 K0 0 j false):=by
 have h1:(0:Int)≤(j:Int)∧(j:Int)≤(L.length:Int):=⟨by omega,by omega⟩
 simp[slA,Heap.obj,bnd,asI,K.eq,h1]
theorem qvz (L:List DV) (j:Nat) (hj:j≤L.length) (H:Heap):slA (some (.sl K0 0 L)::H) K0 (.r 0 K0 0 L.length false) (some (.d (I j))) none none=some (.r 0 K0 j (L.length-j) false):=by
 have h1:(0:Int)≤(j:Int)∧(j:Int)≤(L.length:Int):=⟨by omega,by omega⟩
 simp[slA,Heap.obj,bnd,asI,K.eq,h1]
theorem sdK (v:DV):qcq K0 v 0 K0=some v:=rfl
theorem qGm (T:Tab) (hS:HS T) (gl:List AGl) (t:Bool) (hgl:gl.length≤3518437208883) (hok : ∀y∈gl,y.ok) {d:Nat} (hX:HsK d (K0,[.l (K1 4) 3518437208883 tGl]) (.l (K1 4) (gl.map AGl.dv) t)) (root:Int) (hr:(Lit.int .i64 root).wf=true):Anx (IsL 3518437208883) (T.val 1101 [.l (K1 4) (gl.map AGl.dv) t,I root]):=by
 rw[qaY T (hS 1101 qjQ rfl) rfl];simp[qjQ,Fr.ofArgs];refine qfj (fun q:Nat×List DV=>⟨[(6,.d (I q.1)),(5,qaU K0 q.2),(1,.d (I root)),(0,.d (.l (K1 4) (gl.map AGl.dv) t))],qaT K0 q.2⟩) (fun q=>q.1≤gl.length∧q.2.length≤q.1∧AW q.2) (fun q=>gl.length-q.1) ?_ (0,[]) ⟨Nat.zero_le _,Nat.zero_le _,fun x hx=>by cases hx⟩ (by simp[gc,Fr.keep,qae,qab,qad,PV.refs,gcH,PV.ren,Obj.ren,Heap.obj,Fr.ren,gh,qaU,qaT])
 rintro B-⟨i,L⟩ ⟨hi,hl,hw⟩ hx;simp only at hi hl hw⊢;by_cases hlt:i<gl.length
 ·have h1:(i:Int)<gl.length:=by omega
  have h3:=wr1 (i:=i) (by omega)
  have wi:(Lit.int .i64 gl[i].Id).wf=true:=(hok _ (zzs hlt)).1
  obtain⟨b1,own1,e596⟩:=qgt (qtB T hS) d (ds:=[.l (K1 4) (gl.map AGl.dv) t,I gl[i].Id]) ⟨hX,qfS wi,trivial⟩;obtain⟨b2,own2,e1102⟩:=qgt (qEc T hS) d (ds:=[.l (K1 4) (gl.map AGl.dv) t,I gl[i].Id,I root]) ⟨hX,qfS wi,qfS hr,trivial⟩;have hsame:=hx (i+1,L) ⟨by simp only;omega,by simp only;omega,hw⟩ (by simp only;omega)
  have hins : ∀A C:List DV,A.length+C.length=L.length→AW (A++I gl[i].Id::C)→_:=fun A C hac haw=>hx (i+1,A++I gl[i].Id::C) ⟨by simp only;omega,by simp only[zzp,zzn];omega,haw⟩ (by simp only;omega)
  clear hx
  simp only at hsame hins;cases L with
  |nil =>
   simp only[qaU,qaT] at hsame⊢;cases b1 with
   |true =>
    simp[qgH,h1,hlt,h3,e596];exact hsame _ _ (by simp[gc,Fr.keep,qae,qab,qad,PV.refs,gcH,PV.ren,Obj.ren,Heap.obj,Fr.ren,gh])
   |false =>
    cases b2 with
    |false =>
     simp[qgH,h1,hlt,h3,e596,e1102];exact hsame _ _ (by simp[gc,Fr.keep,qae,qab,qad,PV.refs,gcH,PV.ren,Obj.ren,Heap.obj,Fr.ren,gh])
    |true =>
     simp[qgH,h1,hlt,e596,e1102];refine quW T gl t root i hlt hgl [] hw (by simp) 0 (zzt _) (fun j hj => ?_) (by simp[gc,Fr.keep,qae,qab,qad,PV.refs,gcH,PV.ren,Obj.ren,Heap.obj,Fr.ren,gh,qaU,qaT])
     have hj0:j=0:=by simpa using hj
     subst hj0;have hh:=hins [] [] (by simp) (qj0 wi hw)
     simp only[List.nil_append,qaU,qaT] at hh⊢;simp[h1,hlt,h3,↓qho,↓qh5,↓qbq,↓qbr,↓qba,↓qbi,↓qbc,qbg,↓qbb,↓qbo,↓qbf,↓qbe,↓qbd,↓qbn,qa5,writeS,touchS,qau,qaQ,chg,runs,qaO,qa3,PV.refs,PV.refsL,IOp.okD,Nat.testBit,qAe,qGl];exact hh _ _ (by simp[gc,Fr.keep,qae,qab,qad,PV.refs,qaf,gcH,qag,Obj.refs,PV.ren,Obj.ren,Heap.obj,Fr.ren,gh,zzd])
  |cons x r =>
   have hov:qaU K0 (x::r) = .r 0 K0 0 (x::r).length false:=rfl
   have hoo:qaT K0 (x::r)=[some (.sl K0 0 (x::r))]:=rfl
   have hL0:(x::r)≠[]:=by simp
   generalize x::r=L at *
   simp only[hov,hoo] at hsame⊢;cases b1 with
   |true =>
    simp[qgH,h1,hlt,h3,e596];exact hsame _ _ (by simp[gc,Fr.keep,qae,qab,qad,PV.refs,qaf,gcH,qag,Obj.refs,PV.ren,Obj.ren,Heap.obj,Fr.ren,gh,zzd])
   |false =>
    cases b2 with
    |false =>
     simp[qgH,h1,hlt,h3,e596,e1102];exact hsame _ _ (by simp[gc,Fr.keep,qae,qab,qad,PV.refs,qaf,gcH,qag,Obj.refs,PV.ren,Obj.ren,Heap.obj,Fr.ren,gh,zzd])
    |true =>
     simp[qgH,h1,hlt,e596,e1102];refine quW T gl t root i hlt hgl L hw (by omega) L.length (zzt _) (fun j hj => ?_) (by rw[hov,hoo];simp[gc,Fr.keep,qae,qab,qad,PV.refs,qaf,gcH,qag,Obj.refs,PV.ren,Obj.ren,Heap.obj,Fr.ren,gh,zzd])
     rw[hov,hoo];have s1:=qxx L j hj
     have s2:=qvz L j hj
     have hac:(L.take j).length+(L.drop j).length=L.length:=by rw[List.length_take,List.length_drop];omega
     have haw:AW (L.take j++I gl[i].Id::L.drop j):=by
      intro y hy;rcases List.mem_append.1 hy with hy|hy
      ·exact hw y (List.mem_of_mem_take hy)
      ·rcases List.mem_cons.1 hy with rfl|hy
       ·exact⟨_,rfl,wi⟩
       ·exact hw y (List.mem_of_mem_drop hy)
     have hh:=hins _ _ hac haw
     have hC:List.take (L.length-j) (L.drop j)=L.drop j:=List.take_of_length_le (by rw[List.length_drop];omega)
     have gj:(j:Int)≤L.length:=by omega
     cases j with
     |zero =>
      have s1 : ∀H,slA (some (.sl K0 0 L)::H) K0 (.r 0 K0 0 L.length false) none (some (.d (I 0))) none=some (.r 0 K0 0 0 false):=qxx L 0 hj
      have s2 : ∀H,slA (some (.sl K0 0 L)::H) K0 (.r 0 K0 0 L.length false) (some (.d (I 0))) none none=some (.r 0 K0 0 L.length false):=qvz L 0 hj
      simp only[List.take_zero,List.drop_zero,List.nil_append,Nat.sub_zero] at hh hC;have b8:(1+L.length)*8≤140737488355328:=by omega
      have hlen:L.length+1=1+L.length:=by omega
      simp[h1,hlt,h3,↓qho,↓qiz,hL0,↓qbq,↓qbr,↓qba,↓qbi,↓qbc,qbg,↓qbb,↓qbo,↓qbf,↓qbe,↓qbd,↓qbn,qa5,writeS,touchS,qau,qaQ,chg,runs,qaO,qa3,PV.refs,PV.refsL,IOp.okD,Nat.testBit,s1,s2,hC,b8];exact hh _ _ (by simp[gc,Fr.keep,qae,qab,qad,PV.refs,qaf,gcH,qag,Obj.refs,PV.ren,Obj.ren,Heap.obj,Fr.ren,gh,zzd,qaU,qaT];omega)
     |succ m =>
      obtain⟨n,hn,hnw⟩:=hw L[m] (zzs (by omega))
      have c1:((m+1:Nat):Int)=(m:Int)+1:=by omega
      have g1:(0:Int)<(m:Int)+1:=by omega
      have g6:IntKind.i64.wrap (m:Int)=m:=wrI (by omega) (by omega)
      have g3:(m:Int)<L.length:=by omega
      have g5:m<L.length:=by omega
      have gj2:(m:Int)+1≤L.length:=by omega
      have gj3:m+1≤L.length:=hj
      have gm:(0:Int)≤(m:Int)+1:=by omega
      rw[c1] at s1 s2⊢;simp[h1,hlt,g1,g6,g3,g5,↓qgV,hn,sdK,↓qbq,↓qbr,↓qba,↓qbi,↓qbc,qbg,↓qbb,↓qbo,↓qbf,↓qbe,↓qbd,↓qbn,qa5,writeS,touchS,qau,qaQ,chg,qa1,runs,qaO,qa3,PV.refs,IOp.okD,Nat.testBit];refine qfU (fun h => ?_) (fun h => ?_)
      ·simp[h3];exact hsame _ _ (by simp[gc,Fr.keep,qae,qab,qad,PV.refs,qaf,gcH,qag,Obj.refs,PV.ren,Obj.ren,Heap.obj,Fr.ren,gh,zzd])
      ·have hA:List.take (m+1) L≠[]:=by
        intro c
        have:=congrArg List.length c
        rw[List.length_take,List.length_nil] at this;omega
       have hAl:min (m+1) L.length=m+1:=by omega
       have b8:(m+1)*8≤140737488355328:=by omega
       have b9:(m+1+1)*8≤140737488355328:=by omega
       have b10:(m+1+1+(L.length-(m+1)))*8≤140737488355328:=by omega
       have hAt:List.take (m+1) (List.take (m+1) L)=List.take (m+1) L:=List.take_of_length_le (by rw[List.length_take];omega)
       have hAt2:List.take (m+1+1) (List.take (m+1) L++[I gl[i].Id])=List.take (m+1) L++[I gl[i].Id]:=List.take_of_length_le (by rw[zzp,List.length_take];simp;omega)
       have l2:m+1+(L.length-(m+1))=L.length:=by omega
       by_cases hB:List.drop (m+1) L=[]
       ·have hBl:L.length-(m+1)=0:=by rw[←List.length_drop,hB];rfl
        rw[hB] at hh;simp[h1,hlt,h3,↓qh5,↓qiz,hA,hAl,hBl,hAt,hAt2,s1,s2,b8,b9,gj3];rw[(qmu (by simp)).1,(qmu (by simp)).2] at hh
        exact hh _ _ (by simp[gc,Fr.keep,qae,qab,qad,PV.refs,qaf,gcH,qag,Obj.refs,PV.ren,Obj.ren,Heap.obj,Fr.ren,gh,zzd,hAl])
       ·simp[h1,hlt,h3,↓qiz,hA,hB,hAl,hAt,hAt2,s1,s2,hC,b8,b9,b10,gj3,l2];rw[(qmu (by simp)).1,(qmu (by simp)).2] at hh
        exact hh _ _ (by simp[gc,Fr.keep,qae,qab,qad,PV.refs,qaf,gcH,qag,Obj.refs,PV.ren,Obj.ren,Heap.obj,Fr.ren,gh,zzd,hAl];omega)
 ·have h1 : ¬((i:Int)<gl.length):=by omega
  cases L with
  |nil =>
   simp[qgH,h1,qaU,qaT];exact qaz ⟨[],_,rfl,by simp,hw⟩
  |cons x r =>
   simp[qgH,h1,qaU,qaT];exact qaz ⟨x::r,_,rfl,by omega,hw⟩
theorem qEN (T:Tab) (hS:HS T):qai T 1101 qpp:=by
 intro d ds hd;obtain⟨es,t,n,rfl,h1,hn,hle⟩:=glI hd;obtain⟨gl,rfl,hok⟩:=qK6 h1;obtain⟨r,e,hr⟩:=qGm T hS gl t (by simpa using hle) hok h1 n hn
 obtain⟨vs,own,rfl,hv⟩:=qww (d:=d) hr (by omega)
 exact⟨vs,own,e,hv⟩
end Go.Sim
end
section
namespace Go.Sim
set_option maxRecDepth 10000
set_option maxHeartbeats 4000000
abbrev TW (l:List (List UInt8)):Prop:=∀s∈l,s.length≤maxLen
theorem qBm (es:List DV) (t:Bool) (j:Nat) (hj:j≤es.length) (H:Heap):slA H K0 (.d (.l K0 es t)) none (some (.d (I j))) none=some (.d (.l K0 (es.take j) (t&&j==es.length))):=by
 have h1:(0:Int)≤(j:Int)∧(j:Int)≤(es.length:Int):=⟨by omega,by omega⟩
 simp[slA,bnd,asI,K.eq,h1]
theorem qLz (es:List DV) (t:Bool) (j:Nat) (hj:j≤es.length) (H:Heap):slA H K0 (.d (.l K0 es t)) (some (.d (I j))) none none=some (.d (.l K0 (es.drop j) t)):=by
 have h1:(0:Int)≤(j:Int)∧(j:Int)≤(es.length:Int):=⟨by omega,by omega⟩
 simp[slA,bnd,asI,K.eq,h1]
def IsN (m:Nat) (r:PV×Bool):Prop:=∃(L:List (List UInt8)) (own:Bool),r=(.d (.l K0 (L.map DV.s) false),own)∧L.length≤m∧TW L∧L≠[]
theorem qwY (T:Tab) (hS:HS T) (L:List (List UInt8)) (t:Bool) (hL:L.length≤1000) (hw:TW L) (s:List UInt8) (hs:s.length≤maxLen):Anx (IsN (L.length+1)) (T.val 953 [.l K0 (L.map DV.s) t,.s s]):=by
 rw[qaY T (hS 953 qj7 rfl) rfl];simp[qj7,Fr.ofArgs];refine qfj (fun k:Nat=>⟨[(5,.d (I k)),(1,.d (.s s)),(0,.d (.l K0 (L.map DV.s) t))],[]⟩) (fun k=>k≤L.length) (fun k=>L.length-k) ?_ 0 (Nat.zero_le _) (by simp[gc,Fr.keep,qae,qab,qad,PV.refs,gcH,PV.ren,Obj.ren,Heap.obj,Fr.ren,gh])
 rintro B-k hk hx;have tail : ∀(c:List (Nat×PV)→Option (PV×Bool)),True:=fun _=>trivial
 clear tail
 have s1:=qBm (L.map DV.s) t k (by simpa using hk)
 have s2:=qLz (L.map DV.s) t k (by simpa using hk)
 have hw':TW (L.take k++s::L.drop k):=by
  intro y hy;rcases List.mem_append.1 hy with hy|hy
  ·exact hw y (List.mem_of_mem_take hy)
  ·rcases List.mem_cons.1 hy with rfl|hy
   ·exact hs
   ·exact hw y (List.mem_of_mem_drop hy)
 have hll:(L.take k++s::L.drop k).length≤L.length+1:=by
  rw[zzp,zzn,List.length_take,List.length_drop];omega
 have b1:k*16≤140737488355328:=by omega
 have b2:(k+1)*16≤140737488355328:=by omega
 have b3:(k+1+(L.length-k))*16≤140737488355328:=by omega
 have m1:min k L.length=k:=by omega
 have gk:(k:Int)≤L.length:=by omega
 have at2:List.take (k+1) (List.take k (L.map DV.s)++[DV.s s])=List.take k (L.map DV.s)++[DV.s s]:=List.take_of_length_le (by rw[zzp,List.length_take,zzo];simp;omega)
 have at1:List.take k (List.take k (L.map DV.s))=List.take k (L.map DV.s):=List.take_of_length_le (by rw[List.length_take];omega)
 have le1:k+1+(L.length-k)≤k+(L.length-k+1):=by omega
 have at3:List.take (k+1+(L.length-k)) (List.take k (L.map DV.s)++DV.s s::List.drop k (L.map DV.s))=List.take k (L.map DV.s)++DV.s s::List.drop k (L.map DV.s):=List.take_of_length_le (by simp only[zzp,List.length_take,zzn,List.length_drop,zzo];omega)
 have fin:(L.take k++s::L.drop k).map DV.s=List.take k (L.map DV.s)++DV.s s::List.drop k (L.map DV.s):=by simp
 by_cases hlt:k<L.length
 ·have h1:(k:Int)<L.length:=by omega
  have h3:IntKind.i64.wrap ((k:Int)+1)=(k:Int)+1:=wrI (by omega) (by omega)
  have hx':=hx (k+1) (by omega) (by omega)
  have hB:List.drop k (L.map DV.s)≠[]:=by
   intro c
   have:=congrArg List.length c
   rw[List.length_drop,zzo,List.length_nil] at this;omega
  simp[qqS,h1,hlt,↓qn3];refine qfU (fun h => ?_) (fun h => ?_)
  ·simp[h3];exact hx' _ _ (by simp[gc,Fr.keep,qae,qab,qad,PV.refs,gcH,PV.ren,Obj.ren,Heap.obj,Fr.ren,gh])
  ·simp[h1,hlt];refine qfU (fun h => ?_) (fun h => ?_)
   ·cases t
    ·simp;exact qaz ⟨L,_,rfl,by omega,hw,fun c=>by rw[c] at hlt;simp at hlt⟩
    ·simp;exact qaz ⟨L,_,rfl,by omega,hw,fun c=>by rw[c] at hlt;simp at hlt⟩
   ·simp[s1,s2,↓qiz,hB,b1,b2,b3,m1,at1,at2,le1];exact qaz ⟨_,_,by rw[at3,fin],hll,hw',by simp⟩
 ·have hk2:k=L.length:=by omega
  have h1 : ¬((k:Int)<L.length):=by omega
  have hB:List.drop k (L.map DV.s)=[]:=List.drop_of_length_le (by simp;omega)
  have b0:L.length-k=0:=by omega
  simp[qqS,h1,s1,s2,↓qh5,↓qiz,hB,b1,b2,m1,at1,at2];exact qaz ⟨_,_,by rw[fin,hB],hll,hw',by simp⟩
end Go.Sim
end
section
namespace Go.Sim
set_option maxRecDepth 10000
set_option maxHeartbeats 4000000
theorem qp4 : ∀(es:List DV) (n m:Int),n≤qca es n m
 | [],n,m=>by unfold qca;omega
 |e::es,n,m=>by
  unfold qca;split
  ·rename_i h;have h1:=(qnk e (m-n) (by omega)).1
   have:=qp4 es (n+qaB e (m-n)) m
   omega
  ·omega
theorem qAg {e:DV} {es:List DV} {n m:Int} (h:qca (e::es) n m≤m):n≤m∧1≤qaB e (m-n)∧qaB e (m-n)≤m-n∧qca (e::es) n m=qca es (n+qaB e (m-n)) m:=by
 have h0:=qp4 (e::es) n m
 have hn:n≤m:=by omega
 have e1:qca (e::es) n m=qca es (n+qaB e (m-n)) m:=by conv=>lhs;unfold qca;rw[if_pos hn]
 have h1:=(qnk e (m-n) (by omega)).1
 have h2:=qp4 es (n+qaB e (m-n)) m
 exact⟨hn,h1,by omega,e1⟩
def qmo (m:Int) (r:PV×Bool):Prop:=∃(L:List (List UInt8)) (own:Bool),r=(.d (.l K0 (L.map DV.s) false),own)∧(L.length:Int)≤m∧TW L
def fN:Bool→List (List UInt8)→Fr
 |true,_=>[(3,.r 0 K0 0 1 false),(1,.p 1 0 0)]
 |false,L=>[(3,.d (.l K0 (L.map DV.s) L.isEmpty)),(1,.p 0 0 0)]
def hN (x:AExpr):Bool→List (List UInt8)→Heap
 |true,L=>[some (.sl K0 0 (L.map DV.s)),some (.box (K1 4) (.d x.dv))]
 |false,_=>[some (.box (K1 4) (.d x.dv))]
theorem qu0 (T:Tab) (hS:HS T) {Q:PV×Bool→Prop} (x:AExpr) (i:Nat) (N:List (List UInt8)) (hN0:TW N) (sh:Bool) (L:List (List UInt8)) (hsh:sh=true→L.length=1) (hL:TW L) (hl:L.length+N.length≤500) {k:KC (PV×Bool)} {fr:Fr} {H:Heap}
  (hk : ∀sh' L',(sh'=true→L'.length=1)→TW L'→L'.length≤L.length+N.length→Anx Q (k (.exit 2) ((31,.d (.b false))::(6,.d (I N.length))::(5,.d (.l K0 (N.map DV.s) false))::(4,.d (I i))::fN sh' L') (hN x sh' L')))
  (h0:gc [1,3,4,5,6] 0 ⟨fr,H⟩=⟨(6,.d (I 0))::(5,.d (.l K0 (N.map DV.s) false))::(4,.d (I i))::fN sh L,hN x sh L⟩) :
  Anx Q (kC T.env 0 fr H (.h (.loop [1,3,4,5,6] qip,k))):=by
 refine qfj (fun q:Nat×Bool×List (List UInt8)=>⟨(6,.d (I q.1))::(5,.d (.l K0 (N.map DV.s) false))::(4,.d (I i))::fN q.2.1 q.2.2,hN x q.2.1 q.2.2⟩) (fun q=>q.1≤N.length∧(q.2.1=true→q.2.2.length=1)∧TW q.2.2∧q.2.2.length≤L.length+q.1) (fun q=>N.length-q.1) ?_ (0,sh,L) ⟨Nat.zero_le _,hsh,hL,by simp⟩ h0
 rintro B-⟨j,sh',L'⟩ ⟨hj,hs',hw',hl'⟩ hx;simp only at hj hs' hw' hl'⊢;have hkj:=hk sh' L' hs' hw' (by omega)
 clear hk
 by_cases hlt:j<N.length
 ·have h1:(j:Int)<N.length:=by omega
  have h3:IntKind.i64.wrap ((j:Int)+1)=(j:Int)+1:=wrI (by omega) (by omega)
  have hs:=hN0 N[j] (zzs hlt)
  cases sh' with
  |true =>
   obtain⟨s0,rfl⟩ : ∃s0,L'=[s0]:=by
    have:=hs' rfl
    match L',this with
    | [s0],_=>exact⟨s0,rfl⟩
   obtain⟨r,e953,M,own,rfl,hm,hmw,hm0⟩:=qwY T hS [s0] false (by simp) hw' N[j] hs
   have hme:M.isEmpty=false:=by cases M<;>first|rfl|exact absurd rfl hm0
   have hx':=hx (j+1,false,M) ⟨by simp only;omega,(fun c=>by cases c),hmw,by simp only at hm⊢;simp only[zzn,List.length_nil] at hm hl';omega⟩ (by simp only;omega)
   clear hx
   simp only[fN,hN,hme] at hx'⊢;simp only[zzu,List.map_nil] at e953;simp[qip,h1,hlt,h3,e953,qaL,pur,qa2,PV.scal,PV.scal1,DV.scal,DV.scal1];exact hx' _ _ (by simp[gc,Fr.keep,qae,qab,qad,PV.refs,qaf,gcH,qag,Obj.refs,PV.ren,Obj.ren,Heap.obj,Fr.ren,gh,zzd,frz,qcJ,Heap.put])
  |false =>
   obtain⟨r,e953,M,own,rfl,hm,hmw,hm0⟩:=qwY T hS L' L'.isEmpty (by omega) hw' N[j] hs
   have hme:M.isEmpty=false:=by cases M<;>first|rfl|exact absurd rfl hm0
   have hx':=hx (j+1,false,M) ⟨by simp only;omega,(fun c=>by cases c),hmw,by simp only;omega⟩ (by simp only;omega)
   clear hx
   simp only[fN,hN,hme] at hx'⊢;simp[qip,h1,hlt,h3,e953,qaL,pur,qa2,PV.scal,PV.scal1,DV.scal,DV.scal1];exact hx' _ _ (by simp[gc,Fr.keep,qae,qab,qad,PV.refs,qaf,gcH,qag,Obj.refs,PV.ren,Obj.ren,Heap.obj,Fr.ren,gh,zzd])
 ·have hj2:j=N.length:=by omega
  subst hj2;have h1 : ¬((N.length:Int)<N.length):=by omega
  cases sh' with
  |true =>
   simp only[fN,hN] at hkj⊢;simp[qip,h1];exact hkj
  |false =>
   simp only[fN,hN] at hkj⊢;simp[qip,h1];exact hkj
theorem qyg {x:AExpr} (hx:x.ok) : ∃l:List AExpr,x.Args.l=l.map AExpr.dv∧(∀a∈l,a.ok)∧l.length*56≤140737488355328:=by
 obtain⟨o,m,s,a⟩:=x;obtain⟨a,t⟩:=a;obtain⟨_,_,_,hX⟩:=hx;simp only at hX;obtain⟨h1,l,h2,h3⟩:=qup hX;refine⟨l,h2,h3,?_⟩;cases hX with|mk _ _ _ h=>rw[h2] at h;simpa[qa8] using h
theorem qGX (x:AExpr) (m:Int):qaB x.dv m=qca x.Args.l 1 m:=by
 unfold AExpr.dv;conv=>lhs;unfold qaB
theorem qHA (T:Tab) (hS:HS T) : ∀(n:Nat) (x:AExpr),SizeOf.sizeOf x.dv<n→x.ok→∀m:Int,0≤m→m≤200→qaB x.dv m≤m→Anx (qmo (qaB x.dv m)) (T.val 922 [x.dv]):=by
 intro n;induction n with
 |zero=>intro x h;exact absurd h (zzm _)
 |succ n ih =>
  intro x hn hx m hm0 hm1 hc;obtain⟨l,h2,h3,h4⟩:=qyg hx;have hcx:=qGX x m
  rw[h2] at hcx;have key : ∀(k:KC (PV×Bool)) (fr:Fr) (H:Heap) (sh:Bool) (L:List (List UInt8)),(sh=true→L.length=1)→TW L→L.length≤1 →
    (∀sh' L',(sh'=true→L'.length=1)→TW L'→(L'.length:Int)≤qaB x.dv m→Anx (qmo (qaB x.dv m)) (k (.exit 0) ((19,.d (.b false))::(4,.d (I l.length))::fN sh' L') (hN x sh' L'))) →
    gc [1,3,4] 0 ⟨fr,H⟩=⟨(4,.d (I 0))::fN sh L,hN x sh L⟩→Anx (qmo (qaB x.dv m)) (kC T.env 0 fr H (.h (.loop [1,3,4] qim,k))):=by
   intro k fr H sh L hsh hL hl hk h0;refine qfj (fun q:Nat×Bool×List (List UInt8)=>⟨(4,.d (I q.1))::fN q.2.1 q.2.2,hN x q.2.1 q.2.2⟩) (fun q=>q.1≤l.length∧(q.2.1=true→q.2.2.length=1)∧TW q.2.2∧∃nn:Int,(q.2.2.length:Int)≤nn∧1≤nn∧qca ((l.drop q.1).map AExpr.dv) nn m=qaB x.dv m) (fun q=>l.length-q.1) ?_ (0,sh,L) ⟨Nat.zero_le _,hsh,hL,1,by simp only;omega,by omega,by simp only[List.drop_zero];exact hcx.symm⟩ h0
   rintro B-⟨i,sh',L'⟩ ⟨hi,hs',hw',nn,hn1,hn2,hn3⟩ hx1;simp only at hi hs' hw' hn1 hn3⊢;by_cases hlt:i<l.length
   ·have h1:(i:Int)<l.length:=by omega
    have h5:IntKind.i64.wrap ((i:Int)+1)=(i:Int)+1:=wrI (by omega) (by omega)
    rw[List.drop_eq_getElem_cons hlt,zzu] at hn3;have hc2:=hc
    rw[←hn3] at hc2;obtain⟨p1,p2,p3,p4⟩:=qAg hc2;obtain⟨r,e922,N,own,rfl,hNl,hNw⟩:=ih l[i] (by have:=qsd (x:=x) (a:=l[i]) (by rw[h2];exact List.mem_map_of_mem (zzs hlt));omega) (h3 _ (zzs hlt)) (m-nn) (by omega) (by omega) p3
    have hsm:L'.length+N.length≤500:=by omega
    have fin : ∀sh2 L2,(sh2=true→L2.length=1)→TW L2→L2.length≤L'.length+N.length→∀fr H,gc [1,3,4] 0 ⟨fr,H⟩=⟨(4,.d (I ((i:Int)+1)))::fN sh2 L2,hN x sh2 L2⟩→Anx (qmo (qaB x.dv m)) (kC T.env 0 fr H (.h (.loop [1,3,4] B,k))):=by
     intro sh2 L2 q1 q2 q3 fr H q4;exact hx1 (i+1,sh2,L2) ⟨by simp only;omega,q1,q2,nn+qaB (AExpr.dv l[i]) (m-nn),by simp only;omega,by omega,by simp only;rw[←p4];exact hn3⟩ (by simp only;omega) fr H (by rw[q4];rfl)
    clear hx1
    cases sh' with
    |true =>
     simp only[fN,hN];simp[qim,h1,hlt,h2,e922,qaL,PV.scal,PV.scal1,DV.scal,DV.scal1];refine qu0 T hS x i N hNw true L' hs' hw' hsm (fun sh2 L2 q1 q2 q3 => ?_) (by simp[gc,Fr.keep,qae,qab,qad,PV.refs,qaf,gcH,qag,Obj.refs,PV.ren,Obj.ren,Heap.obj,Fr.ren,gh,zzd,fN,hN])
     have f2:=fin sh2 L2 q1 q2 q3
     cases sh2 with
     |true =>
      simp only[fN,hN] at f2⊢;simp[h5];exact f2 _ _ (by simp[gc,Fr.keep,qae,qab,qad,PV.refs,qaf,gcH,qag,Obj.refs,PV.ren,Obj.ren,Heap.obj,Fr.ren,gh,zzd])
     |false =>
      simp only[fN,hN] at f2⊢;simp[h5];exact f2 _ _ (by simp[gc,Fr.keep,qae,qab,qad,PV.refs,qaf,gcH,qag,Obj.refs,PV.ren,Obj.ren,Heap.obj,Fr.ren,gh,zzd])
    |false =>
     simp only[fN,hN];simp[qim,h1,hlt,h2,e922,qaL,PV.scal,PV.scal1,DV.scal,DV.scal1];refine qu0 T hS x i N hNw false L' hs' hw' hsm (fun sh2 L2 q1 q2 q3 => ?_) (by simp[gc,Fr.keep,qae,qab,qad,PV.refs,qaf,gcH,qag,Obj.refs,PV.ren,Obj.ren,Heap.obj,Fr.ren,gh,zzd,fN,hN])
     have f2:=fin sh2 L2 q1 q2 q3
     cases sh2 with
     |true =>
      simp only[fN,hN] at f2⊢;simp[h5];exact f2 _ _ (by simp[gc,Fr.keep,qae,qab,qad,PV.refs,qaf,gcH,qag,Obj.refs,PV.ren,Obj.ren,Heap.obj,Fr.ren,gh,zzd])
     |false =>
      simp only[fN,hN] at f2⊢;simp[h5];exact f2 _ _ (by simp[gc,Fr.keep,qae,qab,qad,PV.refs,qaf,gcH,qag,Obj.refs,PV.ren,Obj.ren,Heap.obj,Fr.ren,gh,zzd])
   ·have hi2:i=l.length:=by omega
    subst hi2;have h1 : ¬((l.length:Int)<l.length):=by omega
    rw[List.drop_length,List.map_nil] at hn3;have hf:(L'.length:Int)≤qaB x.dv m:=by rw[←hn3];unfold qca;exact hn1
    have hkk:=hk sh' L' hs' hw' hf
    cases sh' with
    |true =>
     simp only[fN,hN] at hkk⊢;simp[qim,h1,h2];exact hkk
    |false =>
     simp only[fN,hN] at hkk⊢;simp[qim,h1,h2];exact hkk
  have ends : ∀sh' (L':List (List UInt8)),(sh'=true→L'.length=1)→True:=fun _ _ _=>trivial
  clear ends
  rw[qaY T (hS 922 qi5 rfl) rfl];have hS0:x.S.length≤maxLen:=hx.2.2.1
  by_cases ho:x.Op=4
  ·simp[qi5,Fr.ofArgs,ho];refine key _ _ _ true [x.S] (fun _=>rfl) (fun s hs=>by rw[List.mem_singleton.1 hs];exact hS0) (zzt _) (fun sh' L' q1 q2 q3 => ?_) (by simp[gc,Fr.keep,qae,qab,qad,PV.refs,qaf,gcH,qag,Obj.refs,PV.ren,Obj.ren,Heap.obj,Fr.ren,gh,zzd,fN,hN])
   cases sh' with
   |true =>
    obtain⟨s0,rfl⟩ : ∃s0,L'=[s0]:=by
     have:=q1 rfl
     match L',this with
     | [s0],_=>exact⟨s0,rfl⟩
    simp only[fN,hN];simp;exact qaz ⟨[s0],_,rfl,q3,q2⟩
   |false =>
    cases L' with
    |nil =>
     simp only[fN,hN];simp;exact qaz ⟨[],_,rfl,q3,q2⟩
    |cons s0 L' =>
     simp only[fN,hN,List.isEmpty_cons];simp;exact qaz ⟨s0::L',_,rfl,q3,q2⟩
  ·have go:=qeP ho
   simp[qi5,Fr.ofArgs,go];refine key _ _ _ false [] (fun c=>by cases c) (fun s hs=>by cases hs) (Nat.zero_le _) (fun sh' L' q1 q2 q3 => ?_) (by simp[gc,Fr.keep,qae,qab,qad,PV.refs,qaf,gcH,qag,Obj.refs,PV.ren,Obj.ren,Heap.obj,Fr.ren,gh,zzd,fN,hN])
   cases sh' with
   |true =>
    obtain⟨s0,rfl⟩ : ∃s0,L'=[s0]:=by
     have:=q1 rfl
     match L',this with
     | [s0],_=>exact⟨s0,rfl⟩
    simp only[fN,hN];simp;exact qaz ⟨[s0],_,rfl,q3,q2⟩
   |false =>
    cases L' with
    |nil =>
     simp only[fN,hN];simp;exact qaz ⟨[],_,rfl,q3,q2⟩
    |cons s0 L' =>
     simp only[fN,hN,List.isEmpty_cons];simp;exact qaz ⟨s0::L',_,rfl,q3,q2⟩
end Go.Sim
end
section
namespace Go.Sim
set_option maxRecDepth 10000
set_option maxHeartbeats 4000000
def qxS (r:PV×Bool):Prop:=∃n:Int,r=(.d (I n),false)∧(Lit.int .i64 n).wf=true
theorem qE7 (T:Tab) (hT:HU T) (x:AExpr) (hx:x.ok) (m:Int) (h0:0≤m) (h1:m≤1000):T.val 919 [x.dv,I m]=some (.d (.b (decide (m<qaB x.dv m))),false):=by
 rw[qaY T (hT 919 qf4 rfl) rfl];have e:=qqm T hT _ x (Nat.lt_succ_self _) hx m h0 h1
 simp[qf4,Fr.ofArgs,e]
theorem qwj (d:Nat) (x:AExpr) (hx:x.ok):HsK d (kX 0) x.dv:=by
 obtain⟨o,m,s,a⟩:=x;obtain⟨a,t⟩:=a;obtain⟨h1,h2,h3,hX⟩:=hx;exact qpR h1 h2 h3 (qvX hX)
theorem qvc {d:Nat} {v:DV} (h:HsK d (kX 0) v) : ∃x:AExpr,v=x.dv∧x.ok:=by
 obtain⟨o,n,s,a,rfl,h1,h2,h3,⟨k,h4⟩⟩:=qse h;have hX:=qx9 h4
 cases hX with
 |mk es q1 q2 q3=>exact⟨⟨o,n,s,⟨es,false⟩⟩,rfl,h1,h2,h3,.mk es q1 q2 q3⟩
theorem qJj (T:Tab) (hS:HS T) (hU:HU T) (x:AExpr) (hx:x.ok):Anx qxS (T.val 859 [x.dv]):=by
 have e919:=qE7 T hU x hx 64 (by decide) (by decide)
 obtain⟨n920,own1,e920,_⟩:=qIJ (qAY T hS) 0 (ds:=[x.dv]) ⟨qwj 0 x hx,trivial⟩;obtain⟨b921,own2,e921⟩:=qgt (qDy T hS) 0 (ds:=[x.dv]) ⟨qwj 0 x hx,trivial⟩;rw[qaY T (hS 859 qgS rfl) rfl];by_cases hg:(64:Int)<qaB x.dv 64
 ·simp[qgS,Fr.ofArgs,e919,hg];exact qaz ⟨5,rfl,by decide⟩
 by_cases h8:8<n920
 ·simp[qgS,Fr.ofArgs,e919,hg,e920,h8];exact qaz ⟨5,rfl,by decide⟩
 cases b921 with
 |false =>
  simp[qgS,Fr.ofArgs,e919,hg,e920,h8,e921];exact qaz ⟨1,rfl,by decide⟩
 |true =>
  obtain⟨r,e922,L,own3,rfl,hL,hw⟩:=qHA T hS _ x (Nat.lt_succ_self _) hx 64 (by decide) (by decide) (by omega)
  have hL2:L.length≤64:=by omega
  simp[qgS,Fr.ofArgs,e919,hg,e920,h8,e921,e922];refine qfj (fun i:Nat=>⟨[(4,.d (I i)),(3,.d (.l K0 (L.map DV.s) false))],[]⟩) (fun i=>i≤L.length) (fun i=>L.length-i) ?_ 0 (Nat.zero_le _) (by simp[gc,Fr.keep,qae,qab,qad,PV.refs,gcH,PV.ren,Obj.ren,Heap.obj,Fr.ren,gh])
  rintro B-i hi hx1;by_cases hlt:i<L.length
  ·have h1:(i:Int)<L.length:=by omega
   have h3:=wr1 (i:=i) (by omega)
   obtain⟨b,own4,e923⟩:=qgt (qKH T hS) 0 (ds:=[.s L[i]]) ⟨qkk (hw _ (zzs hlt)),trivial⟩;have hx':=hx1 (i+1) (by omega) (by omega)
   cases b with
   |true =>
    simp[ql2,h1,hlt,h3,e923];exact hx' _ _ (by simp[gc,Fr.keep,qae,qab,qad,PV.refs,gcH,PV.ren,Obj.ren,Heap.obj,Fr.ren,gh])
   |false =>
    simp[ql2,h1,hlt,e923];exact qaz ⟨4,rfl,by decide⟩
  ·have h1 : ¬((i:Int)<L.length):=by omega
   simp[ql2,h1];exact qaz ⟨0,rfl,by decide⟩
theorem qJN (T:Tab) (hS:HS T) (hU:HU T):qai T 859 qof:=by
 intro d ds hd;cases ds with
 |nil=>exact hd.elim
 |cons v ds =>
  cases ds with
  |cons=>exact hd.2.elim
  |nil =>
   obtain⟨x,rfl,hx⟩:=qvc (show HsK d (kX 0) v from hd.1)
   obtain⟨r,e,n,rfl,hn⟩:=qJj T hS hU x hx;exact⟨[I n],false,e,qfS hn,trivial⟩
theorem qH1 {T:Tab} {f:Nat} {a:List (K×List TA)} (h:qai T f ⟨a,[(none,[.i .i64]),(none,[.b])]⟩) (d:Nat) {ds:List DV} (hd:qbu d a ds) : ∃n b own,T.val f ds=some (.t [.d (I n),.d (.b b)],own)∧(Lit.int .i64 n).wf=true:=by
 obtain⟨vs,own,h1,h2⟩:=h d ds hd;cases vs with
 |nil=>exact h2.elim
 |cons v vs =>
  cases vs with
  |nil=>exact h2.2.elim
  |cons w vs =>
   cases vs with
   |cons=>exact h2.2.2.elim
   |nil =>
    obtain⟨⟨cs,c1,c2⟩,⟨ds,d1,d2⟩,-⟩:=h2;obtain⟨w1,r1,rfl,⟨i,rfl,q1⟩,c3⟩:=qaX c2;obtain rfl:=qct c3;obtain⟨w5,r5,rfl,⟨b,rfl⟩,d3⟩:=qaX d2;obtain rfl:=qct d3;cases c1;cases d1;exact⟨i,b,own,h1,q1⟩
theorem qGz {d:Nat} {cs:List DV} {e:DV} (he:mkD (K1 2) cs=some e) (h:HsL d qkW cs) : ∃x:AVar,e=x.dv∧(Lit.int .i64 x.Typ).wf=true:=by
 obtain⟨w1,r1,rfl,⟨s,rfl,h1⟩,c2⟩:=qaX h;obtain⟨w2,r2,rfl,⟨a,rfl,h2⟩,c3⟩:=qaX c2;obtain rfl:=qct c3;exact⟨⟨s,a⟩,(Option.some.inj he).symm,h2⟩
def qIH (r:PV×Bool):Prop:=∃a b:Int,r=(.t [.d (I a),.d (I b)],false)∧(Lit.int .i64 a).wf=true∧(Lit.int .i64 b).wf=true
def tV:List DV→PV
 | []=>.r 0 K0 0 0 true
 | _::r=>.r 0 K0 0 (r.length+1) false
theorem qKG (T:Tab) (hS:HS T) (V:List AVar) (t:Bool) (hVl:V.length≤maxLen) (hV : ∀y∈V,(Lit.int .i64 y.Typ).wf=true) : ∀(n:Nat) (x:AExpr),SizeOf.sizeOf x.dv<n→x.ok→Anx qIH (T.val 860 [x.dv,.l (K1 2) (V.map AVar.dv) t]):=by
 intro n;induction n with
 |zero=>intro x h;exact absurd h (zzm _)
 |succ n ih =>
  intro x hn hx;have hm:=mxl
  obtain⟨l,h2,h3,h4⟩:=qyg hx;rw[qaY T (hS 860 qgr rfl) rfl];by_cases o1:x.Op=1
  ·simp[qgr,Fr.ofArgs,o1];exact qaz ⟨1,0,rfl,by decide,by decide⟩
  have g1:=qeP o1
  by_cases o2:x.Op=2
  ·simp[qgr,Fr.ofArgs,o2];exact qaz ⟨2,0,rfl,by decide,by decide⟩
  have g2:=qeP o2
  by_cases o3:x.Op=3
  ·simp[qgr,Fr.ofArgs,o3];exact qaz ⟨3,0,rfl,by decide,by decide⟩
  have g3:=qeP o3
  by_cases o4:x.Op=4
  ·simp[qgr,Fr.ofArgs,o4];refine qfj (fun i:Nat=>⟨[(6,.d (I i)),(2,.p 0 0 0),(1,.d (.l (K1 2) (V.map AVar.dv) t))],[some (.box (K1 4) (.d x.dv))]⟩) (fun i=>i≤V.length) (fun i=>V.length-i) ?_ 0 (Nat.zero_le _) (by simp[gc,Fr.keep,qae,qab,qad,PV.refs,qaf,gcH,qag,Obj.refs,PV.ren,Obj.ren,Heap.obj,Fr.ren,gh,zzd])
   rintro B-i hi hx1;by_cases hlt:i<V.length
   ·have h1:(i:Int)<V.length:=by omega
    have h5:IntKind.i64.wrap ((i:Int)+1)=(i:Int)+1:=wrI (by omega) (by omega)
    have wt:=hV V[i] (zzs hlt)
    obtain⟨b,own4,e924⟩:=qgt (qtF T hS) 0 (ds:=[I V[i].Typ]) ⟨qfS wt,trivial⟩;have hx':=hx1 (i+1) (by omega) (by omega)
    by_cases hq:V[i].Name=x.S
    ·cases b with
     |true =>
      simp[qk7,h1,hlt,hq,e924,↓qbq,↓qbr,↓qba,↓qbi,↓qbc,qbg,↓qbb,↓qbo,↓qbf,↓qbe,↓qbd,↓qbn,↓qbA,qa5,writeS,touchS,qau,qaQ,chg,qa1,runs,qaO,qa3,PV.refs,IOp.okD,Nat.testBit];exact qaz ⟨_,0,rfl,wt,by decide⟩
     |false =>
      simp[qk7,h1,hlt,hq,e924,↓qbq,↓qbr,↓qba,↓qbi,↓qbc,qbg,↓qbb,↓qbo,↓qbf,↓qbe,↓qbd,↓qbn,↓qbA,qa5,writeS,touchS,qau,qaQ,chg,qa1,runs,qaO,qa3,PV.refs,IOp.okD,Nat.testBit];exact qaz ⟨0,3,rfl,by decide,by decide⟩
    ·have gq:(V[i].Name==x.S)=false:=by simpa using hq
     simp[qk7,h1,hlt,h5,gq,↓qbq,↓qbr,↓qba,↓qbi,↓qbc,qbg,↓qbb,↓qbo,↓qbf,↓qbe,↓qbd,↓qbn,↓qbA,qa5,writeS,touchS,qau,qaQ,chg,qa1,runs,qaO,qa3,PV.refs,PV.refsL,IOp.okD,Nat.testBit];exact hx' _ _ (by simp[gc,Fr.keep,qae,qab,qad,PV.refs,qaf,gcH,qag,Obj.refs,PV.ren,Obj.ren,Heap.obj,Fr.ren,gh,zzd])
   ·have h1 : ¬((i:Int)<V.length):=by omega
    simp[qk7,h1];exact qaz ⟨0,4,rfl,by decide,by decide⟩
  have g4:=qeP o4
  simp[qgr,Fr.ofArgs,g1,g2,g3,g4];refine qfj (fun q:Nat×List DV=>⟨[(8,.d (I q.1)),(7,tV q.2),(2,.p 1 0 0),(1,.d (.l (K1 2) (V.map AVar.dv) t))],[some (.sl K0 0 q.2),some (.box (K1 4) (.d x.dv))]⟩) (fun q=>q.1≤l.length∧q.2.length=q.1∧AW q.2) (fun q=>l.length-q.1) ?_ (0,[]) ⟨Nat.zero_le _,rfl,fun y hy=>by cases hy⟩ (by simp[gc,Fr.keep,qae,qab,qad,PV.refs,qaf,gcH,qag,Obj.refs,PV.ren,Obj.ren,Heap.obj,Fr.ren,gh,zzd,tV])
  rintro B-⟨i,L⟩ ⟨hi,hl,hw⟩ hx1;simp only at hi hl hw⊢;by_cases hlt:i<l.length
  ·have h1:(i:Int)<l.length:=by omega
   have h5:IntKind.i64.wrap ((i:Int)+1)=(i:Int)+1:=wrI (by omega) (by omega)
   obtain⟨r,e860,a,f,rfl,wa,wf⟩:=ih l[i] (by have:=qsd (x:=x) (a:=l[i]) (by rw[h2];exact List.mem_map_of_mem (zzs hlt));omega) (h3 _ (zzs hlt))
   have hx':=hx1 (i+1,L++[I a]) ⟨by simp only;omega,by simp[hl],fun y hy=>by
    rcases List.mem_append.1 hy with hy|hy
    ·exact hw y hy
    ·exact⟨a,List.mem_singleton.1 hy,wa⟩⟩ (by simp only;omega)
   clear hx1
   by_cases hf:f=0
   ·subst hf;cases L with
    |nil =>
     simp only[List.nil_append,tV] at hx'⊢;simp[qgs,h1,hlt,h5,h2,e860];exact hx' _ _ (by simp[gc,Fr.keep,qae,qab,qad,PV.refs,qaf,gcH,qag,Obj.refs,PV.ren,Obj.ren,Heap.obj,Fr.ren,gh,zzd])
    |cons y L =>
     have b8:(L.length+1+1)*8≤140737488355328:=by simp only[zzn] at hl;omega
     have ht:L.take L.length=L:=List.take_of_length_le (zzt _)
     simp only[List.cons_append,tV] at hx'⊢;simp[qgs,h1,hlt,h5,h2,e860,b8,ht];exact hx' _ _ (by simp[gc,Fr.keep,qae,qab,qad,PV.refs,qaf,gcH,qag,Obj.refs,PV.ren,Obj.ren,Heap.obj,Fr.ren,gh,zzd])
   ·have gf:=qeP hf
    cases L with
    |nil =>
     simp only[tV];simp[qgs,h1,hlt,h2,e860,gf,bne];exact qaz ⟨0,f,rfl,by decide,wf⟩
    |cons y L =>
     simp only[tV];simp[qgs,h1,hlt,h2,e860,gf,bne];exact qaz ⟨0,f,rfl,by decide,wf⟩
  ·have hi2:i=l.length:=by omega
   subst hi2;have h1 : ¬((l.length:Int)<l.length):=by omega
   obtain⟨ty,ok,own5,e925,wty⟩:=qH1 (qE5 T hS) 0 (ds:=[I x.Op,.l K0 L false]) ⟨qfS hx.1,⟨[.l K0 L false],rfl,⟨L,false,rfl,by omega,by omega,fun e he=>by
    obtain⟨n,rfl,hn⟩:=hw e he;exact⟨[I n],rfl,⟨n,rfl,hn⟩,trivial⟩⟩,trivial⟩,trivial⟩
   cases ok with
   |true =>
    cases L with
    |nil =>
     simp only[tV];simp[qgs,h1,h2,e925,qaL,pur,qa2,PV.scal,PV.scal1,DV.scal,DV.scal1];exact qaz ⟨ty,0,rfl,wty,by decide⟩
    |cons y L =>
     have ht:L.take L.length=L:=List.take_of_length_le (zzt _)
     simp only[tV];simp[qgs,h1,h2,e925,qaL,pur,qa2,PV.scal,PV.scal1,DV.scal,DV.scal1,ht];exact qaz ⟨ty,0,rfl,wty,by decide⟩
   |false =>
    cases L with
    |nil =>
     simp only[tV];simp[qgs,h1,h2,e925,qaL,pur,qa2,PV.scal,PV.scal1,DV.scal,DV.scal1];exact qaz ⟨0,3,rfl,by decide,by decide⟩
    |cons y L =>
     have ht:L.take L.length=L:=List.take_of_length_le (zzt _)
     simp only[tV];simp[qgs,h1,h2,e925,qaL,pur,qa2,PV.scal,PV.scal1,DV.scal,DV.scal1,ht];exact qaz ⟨0,3,rfl,by decide,by decide⟩
theorem qA7 (T:Tab) (hS:HS T):qai T 860 qqs:=by
 intro d ds hd;cases ds with
 |nil=>exact hd.elim
 |cons v ds =>
  cases ds with
  |nil=>exact hd.2.elim
  |cons w ds =>
   cases ds with
   |cons=>exact hd.2.2.elim
   |nil =>
    obtain⟨h1,⟨cs,c1,c2⟩,-⟩:=hd;obtain⟨x,rfl,hx⟩:=qvc (show HsK d (kX 0) v from h1)
    obtain⟨w5,r5,rfl,⟨es,t,rfl,q1,_,q2⟩,d3⟩:=qaX c2;obtain rfl:=qct d3;cases c1;obtain⟨V,rfl,hV⟩:=qnm (f:=AVar.dv) (P:=fun y=>(Lit.int .i64 y.Typ).wf=true) fun e he=>by
     obtain⟨cs,z1,z2⟩:=q2 e he;exact qGz z1 z2
    obtain⟨r,e,a,b,rfl,wa,wb⟩:=qKG T hS V t (by simpa using q1) hV _ x (Nat.lt_succ_self _) hx
    exact⟨[I a,I b],false,e,qfS wa,qfS wb,trivial⟩
theorem qHW (T:Tab) (hS:HS T) (hU:HU T) (hP:HP T):HHand T:=⟨qLM T hP,qJN T hS hU,qA7 T hS,qAE T hS,qEa T hS,quY T hS,qEN T hS⟩
end Go.Sim
end
end
section
namespace Go.Sim
def tabH:PT :=
 (.bin 332 qjH (.bin 248 qlf (.bin 247 qkA (.bin 169 qiR .nil .nil) .nil) (.bin 250 qlj (.bin 249 qj8 .nil .nil) .nil)) (.bin 721 qkJ (.bin 635 qhs (.bin 333 qmp .nil .nil) .nil) (.bin 1088 qfK .nil .nil)))
abbrev HHo (T:Tab):Prop:=∀n F,tabH.get n=some F→T.F n=some F
end Go.Sim
end
section
open Go.Sim
attribute [local simp ↓] qep qeN qen qe4 qdI qdy qeG qdl sqK blK lpK qeX qeO qdo qc2 qe3 qdA qdx qdv qeA qeJ qdp qes qdn qc1 qet qd2 qeb qdR qdm qdU qef qc5 qev qdW qdV qd6 qeU qer qdZ qda qdG qdK qdw qdF qdN qea qe9 qc9 qdY qeV qeL qeq qcQ qeZ qdS qcZ qed qdH qdk qeM qeW qdz qdX qem qe7 qdi qc7 qeT qec qe5 qe8 qe2 qee qdh qeD qde qeh qeK qdL qcn qdD qcK qcN qc6 qeI qeC qe1 qeF qeY qd5 qei qeH qd1 qdB qez qey qdC qd8 qew qdO qfo qfJ qfv qfI qfC qfL qfd qfD qfF qfN qfE qfx qgl qf2
attribute [local simp] qb5 qdt qex qdq qd0 qeR qdg qd7 qds qdr qeB rd IOp.adds qaj gh nid rgK rdS qeS qc4 qc8 qdc qeE qfa qdJ qd3 qdP qdf qe6 qdj qdQ qej qek qc3 qdb qdM qdT qe0 qeg qfl qfk qfs qcr qfb qfp qfh qfR qfM qfH qfP
section
namespace Go.Sim
set_option maxRecDepth 10000
set_option maxHeartbeats 4000000
end Go.Sim
end
section
namespace Go.Sim
set_option maxRecDepth 10000
set_option maxHeartbeats 4000000
end Go.Sim
end
section
namespace Go.Sim
set_option maxRecDepth 10000
set_option maxHeartbeats 4000000
theorem qAL {α:Type} (p:α→Bool) (l:List α):decide (0≤qh4 p l)=l.any p:=by
  unfold qh4;cases h:l.findIdx? p with
  |none =>
    have:=List.findIdx?_eq_none_iff.1 h
    have:l.any p=false:=by
      rw[List.any_eq_false];intro x hx;simpa using this x hx
    rw[this];rfl
  |some j =>
    have:l.any p=true:=by
      obtain⟨hj,h1,-⟩:=List.findIdx?_eq_some_iff_getElem.1 h;exact List.any_eq_true.2 ⟨_,zzs hj,h1⟩
    rw[this];simp
end Go.Sim
end
end
section
namespace Go.Sim
end Go.Sim
end
section
open Go.Sim
attribute [local simp ↓] qep qeN qen qe4 qdI qdy qeG qdl sqK blK lpK qeX qeO qdo qc2 qe3 qdA qdx qdv qeA qeJ qdp qes qdn qc1 qet qd2 qeb qdR qdm qdU qef qc5 qev qdW qdV qd6 qeU qer qdZ qda qdG qdK qdw qdF qdN qea qe9 qc9 qdY qeV qeL qeq qcQ qeZ qdS qcZ qed qdH qdk qeM qeW qdz qdX qem qe7 qdi qc7 qeT qec qe5 qe8 qe2 qee qdh qeD qde qeh qeK qdL qcn qdD qcK qcN qc6 qeI qeC qe1 qeF qeY qd5 qei qeH qd1 qdB qez qey qdC qd8 qew qdO qfo qfJ qfv qfI qfC qfL qfd qfD qfF qfN qfE qfx qgl qf2
attribute [local simp] qb5 qdt qex qdq qd0 qeR qdg qd7 qds qdr qeB rd IOp.adds qaj gh nid rgK rdS qeS qc4 qc8 qdc qeE qfa qdJ qd3 qdP qdf qe6 qdj qdQ qej qek qc3 qdb qdM qdT qe0 qeg qfl qfk qfs qcr qfb qfp qfh qfR qfM qfH qfP
section
namespace Go.Sim
set_option maxRecDepth 10000
end Go.Sim
end
section
namespace Go.Sim
set_option maxRecDepth 10000
section
variable {R : Type} {y : PV → Option R}
end
def HCl (T:Tab) (f:Nat) (k:K) (b:Nat):Prop:=∀ds,T.val f ds=qjJ k b ds
theorem qJY {T:Tab} {f:Nat} {k:K} {b:Nat} (h:HCl T f k b) {es:List DV} {t:Bool} (hb:es.length*b≤qa8):T.val f [.l k es t]=some (.d (.l k es false),true):=by
 rw[h,qjJ];have:es.length*b≤2^47:=hb
 simp[this,qb5]
end Go.Sim
end
end
section
namespace Go.Sim
section
variable {R : Type} {E : Env} {fr : Fr} {H : Heap} {bf : List Nat} {acc : List (List Nat × List Nat)} {id : Nat} {j : KO R}
def qiX:Nat→List Nat→Nat→Bool
 | 0,_,_=>true
 |m+1,bf,n=>qiF (bf.headD 0) 0 n&&qiX m bf.tail (n+1)
def kS (E:Env) (id:Nat) (fr:Fr) (H:Heap):List IOper→KO R→Option R
 | [],j=>j fr H
 |o::r,j=>match stepD E o id ⟨fr,H⟩ with
  |some s=>kS E (if o.op.adds then id+1 else id) s.fr s.H r j
  |none=>none
theorem qxK : ∀(ops:List IOper) (bf:List Nat) (acc:List (List Nat×List Nat)) (id:Nat) (fr:Fr) (H:Heap),qiX ops.length bf acc.length=true→kD E id fr H bf acc (.h (ops,j))=kS E id fr H ops j
 | [],_,_,_,_,_,_=>rfl
 |o::r,bf,acc,id,fr,H,h=>by
  simp only[zzn,qiX,zzf] at h;rw[qkt];simp only[kS];cases stepD E o id ⟨fr,H⟩ with
  |none=>rfl
  |some s =>
   simp only[qeo,nfp,qa5,chk,qvd _ _ _ _ _ h.1,if_true];exact qxK r bf.tail _ _ _ _ (by simpa using h.2)
def kSd (E:Env) (id:Nat) (fr:Fr) (H:Heap) {ops:List IOper} {j:KO R} (_:Hd (ops,j)):Option R:=kS E id fr H ops j
theorem qwQ {d:Nat} {k:K} {b:Nat} {x y:Rand} {r:List IOper} (h:qiX (r.length+1) bf acc.length=true):kD E id fr H bf acc (.h (⟨some d,.app k b x y,none⟩::r,j))=bo2 (qaa E (rd E fr) H id (.app k b x y)) (.h fun v H'=>chk (H'.length=H.length) (.h (kSd E (id+1) (fr.set d v) H' (.h (r,j))))):=by
 rw[qxK (⟨some d,.app k b x y,none⟩::r) bf acc id fr H h];simp only[kS,stepD,qal,IOp.okD,zzg,if_false,IOp.barr,if_true];cases qaa E (rd E fr) H id (.app k b x y) with
 |none=>rfl
 |some p =>
  obtain⟨v,H'⟩:=p;simp only[bo2,chk];by_cases hl:H'.length=H.length
  ·have hb:Nat.beq H'.length H.length=true:=by rw[hl];exact Nat.beq_refl _
   rw[if_pos hl];simp only[hb,if_true,IOp.adds];rfl
  ·have hb:Nat.beq H'.length H.length=false:=by
    cases h2:Nat.beq H'.length H.length with
    |false=>rfl
    |true=>exact absurd (Nat.eq_of_beq_eq_true h2) hl
   rw[if_neg hl];simp only[hb,if_false,zzg]
theorem qy3:kSd E id fr H (.h ([],j))=j fr H:=rfl
theorem qyQ {d:Nat} {op:IOp} {r:List IOper}:kSd E id fr H (.h (⟨some d,op,none⟩::r,j))=bo2 (qal E (rd E fr) H id op) (.h fun v H'=>kSd E (if op.adds=true then id+1 else id) (fr.set d v) H' (.h (r,j))):=by
 simp only[kSd,kS,stepD];cases qal E (rd E fr) H id op with
 |none=>rfl
 |some p=>rfl
theorem qvS {op:IOp} {r:List IOper}:kSd E id fr H (.h (⟨none,op,none⟩::r,j))=bo2 (qal E (rd E fr) H id op) (.h fun _ H'=>kSd E (if op.adds=true then id+1 else id) fr H' (.h (r,j))):=by
 simp only[kSd,kS,stepD];cases qal E (rd E fr) H id op with
 |none=>rfl
 |some p=>rfl
end
end Go.Sim
end
section
open Go.Sim
attribute [local simp ↓] qep qeN qen qe4 qdI qdy qeG qdl sqK blK lpK qeX qeO qdo qc2 qe3 qdA qdx qdv qeA qeJ qdp qes qdn qc1 qet qd2 qeb qdR qdm qdU qef qc5 qev qdW qdV qd6 qeU qer qdZ qda qdG qdK qdw qdF qdN qea qe9 qc9 qdY qeV qeL qeq qcQ qeZ qdS qcZ qed qdH qdk qeM qeW qdz qdX qem qe7 qdi qc7 qeT qec qe5 qe8 qe2 qee qdh qeD qde qeh qeK qdL qcn qdD qcK qcN qc6 qeI qeC qe1 qeF qeY qd5 qei qeH qd1 qdB qez qey qdC qd8 qew qdO qfo qfJ qfv qfI qfC qfL qfd qfD qfF qfN qfE qfx qgl qf2
attribute [local simp] qb5 qdt qex qdq qd0 qeR qdg qd7 qds qdr qeB rd IOp.adds qaj gh nid rgK rdS qeS qc4 qc8 qdc qeE qfa qdJ qd3 qdP qdf qe6 qdj qdQ qej qek qc3 qdb qdM qdT qe0 qeg qfl qfk qfs qcr qfb qfp qfh qfR qfM qfH qfP
section
namespace Go.Sim
attribute [local simp ↓ 2000] qwQ
set_option maxRecDepth 10000
set_option maxHeartbeats 4000000
def qyf:Sg:=⟨[(K1 6,qhS)],[(K0,[.b])]⟩
def qxp:Sg:=⟨[(K0,[.s])],[(K0,[.b])]⟩
def qvY:Sg:=⟨[(K0,[.i .i64])],[(K0,[.b])]⟩
theorem qAy:qap [] qjH qvY=true:=by kernel_rfl
theorem qDD:qap [(332,qvY)] qkA qyf=true:=by kernel_rfl
theorem qCQ:qap [] qlf qxp=true:=by kernel_rfl
theorem qG4 (T:Tab) (hH:HHo T):qai T 247 qyf:=qat (hH 247 qkA rfl) qDD fun _=>qak (qat (hH 332 qjH rfl) qAy fun _=>qaq) qaq
theorem qDd (T:Tab) (hH:HHo T):qai T 248 qxp:=qat (hH 248 qlf rfl) qCQ fun _=>qaq
theorem qFR (d:Nat) (x:AHold) (hx:x.ok):HsK d (K1 6,qhS) x.dv :=
 ⟨x.cells,rfl,⟨_,rfl,hx.1⟩,⟨_,rfl,hx.2.1⟩,⟨_,rfl,hx.2.2.1⟩,⟨_,rfl,hx.2.2.2.1⟩,⟨_,rfl,hx.2.2.2.2.1⟩,⟨_,rfl,hx.2.2.2.2.2⟩,trivial⟩
theorem qxY {α:Type} (T:Tab) (hH:HHo T) (g:Nat) (dv:α→DV) (p:α→Bool) (c:PV) (cs:List PV) (H0:Heap) (hC:Cl H0) (hc : ∀r∈PV.refsL (c::cs),r<H0.length) (l:List α) (hv : ∀x∈l,T.ref g (.d (dv x)::c::cs) H0=some (.d (.b (p x)),H0)) (s:Bool) (hn:l.length≤maxLen) :
  T.ref 249 [.d (.l (K1 6) (l.map dv) s),.f g (c::cs)] H0=some (.d (.b (l.any p)),H0):=by
 rw[qiG T (hH 249 qj8 rfl) rfl];have e:=qtV T (show T.F 333=some (qhE (K1 6)) from hH 333 qmp rfl) g dv p c cs H0 hC hc l hv s hn
 have e2:=qAL p l
 simp[qj8,Fr.ofArgs,e,e2,qhq,quB hC]
theorem qCu (T:Tab) (hH:HHo T) (x h:AHold):T.ref 250 [.d x.dv,.p 0 0 0] [some (.box (K1 6) (.d h.dv))]=some (.d (.b (x.Key==h.Key)),[some (.box (K1 6) (.d h.dv))]):=by
 rw[qiG T (hH 250 qlj rfl) rfl];have hC:Cl [some (.box (K1 6) (.d h.dv))]:=fun r h=>by simp[qad,qag,Obj.refs,PV.refs] at h
 simp[qlj,Fr.ofArgs,qhq];exact (qk9 hC [some (.box (K1 6) (.d x.dv))] _)
theorem qA6 (k:K) (es:List DV) (t:Bool) (j:Nat) (hj:j≤es.length) (H:Heap):slA H k (.d (.l k es t)) none (some (.d (I j))) none=some (.d (.l k (es.take j) (t&&j==es.length))):=by
 have h1:(0:Int)≤(j:Int)∧(j:Int)≤(es.length:Int):=⟨by omega,by omega⟩
 simp[slA,bnd,asI,qb5,h1]
theorem quQ (T:Tab) (hH:HHo T) (l:List AHold) (t:Bool) (hl:l.length≤maxLen) (ho : ∀y∈l,y.ok):Anx qxS (T.val 169 [.l (K1 6) (l.map AHold.dv) t]):=by
 have hm:=mxl
 rw[qaY T (hH 169 qiR rfl) rfl];by_cases g64:(64:Int)<l.length
 ·simp[qiR,Fr.ofArgs,g64];exact qaz ⟨5,rfl,by decide⟩
 simp[qiR,Fr.ofArgs,g64];refine qfj (fun i:Nat=>⟨[(10,.d (I i)),(9,.d (I l.length)),(8,.d (.l (K1 6) (l.map AHold.dv) t)),(0,.d (.l (K1 6) (l.map AHold.dv) t))],[]⟩) (fun i=>i≤l.length) (fun i=>l.length-i) ?_ 0 (Nat.zero_le _) (by simp[gc,Fr.keep,qae,qab,qad,PV.refs,gcH,PV.ren,Obj.ren,Heap.obj,Fr.ren,gh])
 rintro B-i hi hx;by_cases hlt:i<l.length
 ·have h1:(i:Int)<l.length:=by omega
  have h3:=wr1 (i:=i) (by omega)
  have hx':=hx (i+1) (by omega) (by omega)
  have hok:=ho _ (zzs hlt)
  obtain⟨b1,own1,e247⟩:=qgt (qG4 T hH) 0 (ds:=[l[i].dv]) ⟨qFR 0 _ hok,trivial⟩;obtain⟨b2,own2,e248⟩:=qgt (qDd T hH) 0 (ds:=[.s l[i].Key]) ⟨qkk hok.2.2.2.2.2,trivial⟩;cases b1 with
  |false =>
   simp[qhn,h1,hlt,e247];exact qaz ⟨1,rfl,by decide⟩
  |true =>
   cases b2 with
   |false =>
    simp[qhn,h1,hlt,e247,e248];exact qaz ⟨4,rfl,by decide⟩
   |true =>
    have s1:=qA6 (K1 6) (l.map AHold.dv) t i (by simp;omega)
    have hC:Cl [some (.box (K1 6) (.d l[i].dv))]:=fun r h=>by simp[qad,qag,Obj.refs,PV.refs] at h
    have e249:=fun s=>qxY T hH 250 AHold.dv (fun x=>x.Key==l[i].Key) (.p 0 0 0) [] _ hC (by simp[PV.refs,PV.refsL]) (l.take i) (fun x _=>qCu T hH x l[i]) s (by rw[List.length_take];omega)
    generalize ((l.take i).any fun x=>x.Key==l[i].Key)=b3 at e249
    simp only[List.map_take] at e249;have fin : ∀c:Nat,True:=fun _=>trivial
    clear fin
    cases i with
    |zero =>
     have s2 : ∀H,slA H (K1 6) (.d (.l (K1 6) (l.map AHold.dv) t)) none (some (.d (I 0))) none=some (.d (.l (K1 6) [] (t&&0==(l.map AHold.dv).length))):=fun H=>s1 H
     simp only[List.take_zero] at e249;have h1':(0:Int)<l.length:=h1
     have h3':IntKind.i64.wrap 1=1:=rfl
     cases b3 with
     |true =>
      simp[qhn,hlt,e247,e248,e249,s2,↓qbq,↓qbr,↓qba,↓qbi,↓qbc,qbg,↓qbb,↓qbo,↓qbf,↓qbe,↓qbd,↓qbn,qa5,writeS,touchS,qau,qaQ,chg,runs,qaO,qa3,PV.refs,PV.refsL,IOp.okD,Nat.testBit];exact qaz ⟨12,rfl,by decide⟩
     |false =>
      simp[qhn,hlt,h3',e247,e248,e249,s2,↓qbq,↓qbr,↓qba,↓qbi,↓qbc,qbg,↓qbb,↓qbo,↓qbf,↓qbe,↓qbd,↓qbn,qa5,writeS,touchS,qau,qaQ,chg,runs,qaO,qa3,PV.refs,PV.refsL,IOp.okD,Nat.testBit];exact hx' _ _ (by simp[gc,Fr.keep,qae,qab,qad,PV.refs,gcH,PV.ren,Obj.ren,Heap.obj,Fr.ren,gh])
    |succ m =>
     have c1:((m+1:Nat):Int)=(m:Int)+1:=by omega
     have g1:(0:Int)<(m:Int)+1:=by omega
     have g0:(0:Int)≤(m:Int)+1:=by omega
     have g6:IntKind.i64.wrap (m:Int)=m:=wrI (by omega) (by omega)
     have g3:(m:Int)<l.length:=by omega
     have g5:m<l.length:=by omega
     rw[c1] at h1 h3 s1⊢;simp[qhn,h1,hlt,g0,g1,g6,g3,g5,e247,e248,↓qbq,↓qbr,↓qba,↓qbi,↓qbc,qbg,↓qbb,↓qbo,↓qbf,↓qbe,↓qbd,↓qbn,qa5,writeS,touchS,qau,qaQ,chg,qa1,runs,qaO,qa3,PV.refs,IOp.okD,Nat.testBit];refine qfU (fun h => ?_) (fun h => ?_)
     ·simp;exact qaz ⟨10,rfl,by decide⟩
     ·cases b3 with
      |true =>
       simp[e249,s1];exact qaz ⟨12,rfl,by decide⟩
      |false =>
       simp[e249,s1,h3];exact hx' _ _ (by simp[gc,Fr.keep,qae,qab,qad,PV.refs,gcH,PV.ren,Obj.ren,Heap.obj,Fr.ren,gh])
 ·have h1 : ¬((i:Int)<l.length):=by omega
  simp[qhn,h1];exact qaz ⟨0,rfl,by decide⟩
end Go.Sim
end
section
namespace Go.Sim
attribute [local simp ↓ 2000] qwQ
set_option maxRecDepth 10000
set_option maxHeartbeats 4000000
theorem qC0 (T:Tab) (hH:HHo T) (x h:AHold) (ro:Nat) (es:List DV):T.ref 721 [.d x.dv,.p 0 0 0] [some (.box (K1 6) (.d h.dv)),some (.sl (K1 6) ro es)]=some (.d (.b (x.Key==h.Key)),[some (.box (K1 6) (.d h.dv)),some (.sl (K1 6) ro es)]):=by
 rw[qiG T (hH 721 qkJ rfl) rfl];have hC:Cl [some (.box (K1 6) (.d h.dv)),some (.sl (K1 6) ro es)]:=fun r h=>by simp[qad,qag,Obj.refs,PV.refs] at h
 simp[qkJ,Fr.ofArgs,qhq];exact (qk9 hC [some (.box (K1 6) (.d x.dv))] _)
def qz0 (l:List AHold) (h:AHold) (r:PV×Bool):Prop:=∃(L:List DV) (t:Bool) (e:Int),r=(.t [.d (.l (K1 6) L t),.d (I e)],false)∧(e=0→L=(l++[h]).map AHold.dv)
theorem qCt (T:Tab) (hH:HHo T) (hC:HCl T 228 (K1 6) 56) (l:List AHold) (t:Bool) (hl:l.length≤1000) (ho : ∀y∈l,y.ok) (h:AHold) (hh:h.ok):Anx (qz0 l h) (T.val 635 [.l (K1 6) (l.map AHold.dv) t,h.dv]):=by
 have hm:=mxl
 obtain⟨_,e1,n1,rfl,_⟩:=quQ T hH l t (by omega) ho
 obtain⟨_,e2,n2,rfl,_⟩:=quQ T hH [h] false (by simp;omega) (fun y hy=>by rw[List.mem_singleton.1 hy];exact hh)
 simp only[zzu,List.map_nil] at e2;rw[qaY T (hH 635 qhs rfl) rfl];by_cases g1:n1=0
 ·subst g1;by_cases g2:n2=0
  ·subst g2;have hCl:Cl [some (.box (K1 6) (.d h.dv)),some (.sl (K1 6) 0 [h.dv])]:=fun r h=>by simp[qad,qag,Obj.refs,PV.refs] at h
   have e249:=qxY T hH 721 AHold.dv (fun x=>x.Key==h.Key) (.p 0 0 0) [] _ hCl (by simp[PV.refs,PV.refsL]) l (fun x _=>qC0 T hH x h 0 [h.dv]) t (by omega)
   generalize (l.any fun x=>x.Key==h.Key)=b3 at e249
   have e228:=qJY hC (es:=l.map AHold.dv) (t:=t) (by rw[zzo];unfold qa8;omega)
   have b56:(l.length+1)*56≤140737488355328:=by omega
   have ht:List.take l.length (l.map AHold.dv)=l.map AHold.dv:=List.take_of_length_le (by simp)
   have ht2:List.take (l.length+1) (l.map AHold.dv++[h.dv])=l.map AHold.dv++[h.dv]:=List.take_of_length_le (by simp)
   simp[qhs,Fr.ofArgs,e1,e2,bne,qaL,pur,qa2,PV.scal,PV.scal1,DV.scal,DV.scal1];by_cases hl0:l.length=0
   ·have g0 : ¬(0<l.length):=by omega
    have f64:((l.length:Int)==64)=false:=qeP (by omega)
    have f64' : ¬((l.length:Int)=64):=by omega
    have f65:(l.length==64)=false:=by simpa using (by omega : ¬l.length=64)
    cases b3 with
    |true =>
     simp[hl0,e249,↓qbq,↓qbr,↓qba,↓qbi,↓qbc,qbg,↓qbb,↓qbo,↓qbf,↓qbe,↓qbd,↓qbn,↓qbJ,qa5,writeS,touchS,qau,qaQ,chg,runs,qaO,qa3,PV.refs,PV.refsL,IOp.okD,Nat.testBit];exact qaz ⟨[],true,12,rfl,fun c=>by cases c⟩
    |false =>
     simp[g0,e249,f64,e228,b56,ht,ht2,↓qbq,↓qbr,↓qba,↓qbi,↓qbc,qbg,↓qbb,↓qbo,↓qbK,↓qbf,↓qbe,↓qbd,↓qbn,↓qbJ,↓qbG,qa5,writeS,touchS,qau,qaQ,chg,qa1,runs,qaO,qa3,PV.refs,PV.refsL,IOp.okD,Nat.testBit,qiF,qiX,↓qy3,↓qyQ,qaL,pur,qa2];exact qaz ⟨_,false,0,rfl,fun _=>by simp⟩
   ·have g0:0<l.length:=by omega
    obtain⟨m,hm1⟩ : ∃m,l.length=m+1:=⟨l.length-1,by omega⟩
    have q1:IntKind.i64.wrap ((l.length:Int)-1)=m:=by rw[hm1];rw[show ((m+1:Nat):Int)-1=m by omega];exact wrI (by omega) (by omega)
    have q2:(m:Int)<l.length:=by omega
    have q3:m<l.length:=by omega
    simp[g0,q1,q2,q3,↓qbq,↓qbr,↓qba,↓qbi,↓qbc,qbg,↓qbb,↓qbo,↓qbf,↓qbe,↓qbd,↓qbn,↓qbJ,qa5,writeS,touchS,qau,qaQ,chg,qa1,runs,qaO,qa3,PV.refs,IOp.okD,Nat.testBit];refine qfU (fun h => ?_) (fun h => ?_)
    ·simp;exact qaz ⟨[],true,10,rfl,fun c=>by cases c⟩
    ·cases b3 with
     |true =>
      simp[e249];exact qaz ⟨[],true,12,rfl,fun c=>by cases c⟩
     |false =>
      by_cases h64:l.length=64
      ·have f64':(l.length:Int)=64:=by omega
       simp[e249,h64];exact qaz ⟨[],true,5,rfl,fun c=>by cases c⟩
      ·have f64:((l.length:Int)==64)=false:=qeP (by omega)
       have f64' : ¬((l.length:Int)=64):=by omega
       simp[e249,f64,e228,b56,ht,ht2,↓qbq,↓qba,↓qbc,qbg,↓qbb,↓qbK,↓qbf,↓qbG,qa5,writeS,touchS,qau,qaQ,chg,qa1,runs,qaO,qa3,PV.refs,IOp.okD,Nat.testBit,qiF,qiX,↓qy3,↓qyQ,qaL,pur,qa2];exact qaz ⟨_,false,0,rfl,fun _=>by simp⟩
  ·have f2:=qeP g2
   simp[qhs,Fr.ofArgs,e1,e2,f2,bne,qaL,pur,qa2,PV.scal,PV.scal1,DV.scal,DV.scal1];exact qaz ⟨[],true,1,rfl,fun c=>by cases c⟩
 ·have f1:=qeP g1
  simp[qhs,Fr.ofArgs,e1,f1,bne,qaL,pur,qa2,PV.scal,PV.scal1,DV.scal,DV.scal1];exact qaz ⟨[],true,1,rfl,fun c=>by cases c⟩
end Go.Sim
end
section
namespace Go.Sim
set_option maxRecDepth 10000
set_option maxHeartbeats 4000000
def qa9 (b:ABooks) (id day:Int):Int×Int:=if (qdE b id day).2=0 then (w64 (w64 (w64 (ofR b.Journal.l id-(qdE b id day).1)-qhF b.Holds.l id day)-qjT b.Blocks.l id day),0) else (0,(qdE b id day).2)
theorem quK (T:Tab) (hT:HU T) (b:ABooks) (id day:Int) (hb:b.ok) (hbl:b.Blocks.l.length≤100000):T.val 634 [b.dv,I id,I day]=some (.t [.d (I (qa9 b id day).1),.d (I (qa9 b id day).2)],false):=by
 rw[qaY T (hT 634 qj2 rfl) rfl];have e1:=qK2 T hT b id day hb
 have e2:=qHm T hT b.Journal.l b.Journal.t id (hb.2.2.2.2.2.2.1).1 (fun e he=>((hb.2.2.2.2.2.2.1).2 e he).2.2.2.2.2.2.2.2.1.1)
 rw[qDc] at e2;have e3:=qGo T hT b.Holds.l b.Holds.t id day (hb.2.2.2.2.2.2.2.1).1
 have e4:=qE3 T hT b.Blocks.l b.Blocks.t id day hbl
 unfold qa9;generalize qdE b id day=fl at e1⊢;simp[qj2,Fr.ofArgs,e1];repeat' (refine qbs (fun h => ?_) (fun h => ?_)<;>(try simp at h)<;>(try simp[h,e2,e3,e4]))
 all_goals simp_all[w64]
theorem qkQ (l:List DV):DV.cells (.a l)=l:=rfl
end Go.Sim
end
section
namespace Go.Sim
set_option maxRecDepth 10000
set_option maxHeartbeats 4000000
theorem qu1 {α β:Type} (f:Nat→β→α→β) : ∀(l:List α) (i:Nat) (b:β) (x:α),qaS f i b (l++[x])=f (i+l.length) (qaS f i b l) x
 | [],i,b,x=>rfl
 |y::l,i,b,x=>by
  show qaS f (i+1) (f i b y) (l++[x])=_
  rw[qu1 f l (i+1)];rw[show i+1+l.length=i+(y::l).length by rw[zzn];omega]
  rfl
theorem qCh (T:Tab) (hU:HU T) (hS:HS T) (b:ABooks) (hb:b.ok) (hg:qhi b=true):T.val 1093 [b.dv]=some (.d (.b false),false):=by
 have e:=qJs T hU b hb
 rw[hg] at e;rw[qaY T (hS 1093 qhl rfl) rfl];simp[qhl,Fr.ofArgs,e]
def qfy (b:ABooks) (h:AHold) (t:Bool):ABooks:={ b with Holds:=⟨b.Holds.l++[h],t⟩ }
def qo1 (h:AHold) (i d:Int):Bool:=h.Account==i&&(decide (h.From≤d)&&decide (d≤h.To))
theorem qLp (b:ABooks) (h:AHold) (t:Bool) (i d:Int):(qa9 (qfy b h t) i d).2=(qa9 b i d).2:=by
 unfold qa9;show (if (qdE b i d).2=0 then _ else _:Int×Int).2=_
 split
 ·rename_i e;rfl
 ·rfl
theorem qGF (b:ABooks) (h:AHold) (t:Bool) (i d:Int) (he:(qa9 b i d).2≠0):(qa9 (qfy b h t) i d).1=(qa9 b i d).1:=by
 unfold qa9 at he⊢;show (if (qdE b i d).2=0 then _ else _:Int×Int).1=_
 split
 ·rename_i e;rw[if_pos e] at he;exact absurd rfl he
 ·rfl
theorem qE0 (b:ABooks) (h:AHold) (t:Bool) (i d:Int) (he:(qa9 b i d).2=0):(qa9 (qfy b h t) i d).1=if qo1 h i d=true then IntKind.i64.wrap ((qa9 b i d).1-h.Amount) else (qa9 b i d).1:=by
 have hf:(qdE b i d).2=0:=by
  unfold qa9 at he;split at he
  ·rename_i e;exact e
  ·exact he
 have e1:(qa9 (qfy b h t) i d).1=w64 (w64 (w64 (ofR b.Journal.l i-(qdE b i d).1)-qhF (b.Holds.l++[h]) i d)-qjT b.Blocks.l i d):=by
  unfold qa9;show (if (qdE b i d).2=0 then _ else _:Int×Int).1=_
  rw[if_pos hf];rfl
 have e2:(qa9 b i d).1=w64 (w64 (w64 (ofR b.Journal.l i-(qdE b i d).1)-qhF b.Holds.l i d)-qjT b.Blocks.l i d):=by
  unfold qa9;rw[if_pos hf]
 have e3:qhF (b.Holds.l++[h]) i d=qge i d (0+b.Holds.l.length) (qhF b.Holds.l i d) h:=qu1 _ _ _ _ _
 rw[e1,e2,e3];unfold qge qo1;split
 ·unfold w64;simp only[IntKind.wrap_i64];omega
 ·rfl
theorem qAJ (T:Tab) (hU:HU T) (hS:HS T) (hP:HP T) (hH:HHo T) (hC:HCl T 228 (K1 6) 56) (hl:T.val 1091 []=some (.d (.b true),false)) (b:ABooks) (hb:b.ok) (hty:qam ABooks.ty b.cells) (h:AHold) (hh:h.ok) (i d a:Int):T.val 1088 [b.dv,h.dv,.a [I i,I d,I a]]=some (.d (.b true),false):=by
 have hm:=mxl
 obtain⟨bs,own,e1093⟩:=qgt (qKX T hS (qHW T hS hU hP)) 0 (ds:=[b.dv]) ⟨⟨b.cells,rfl,qqb 0 ABooks.ty hty⟩,trivial⟩;rw[qaY T (hH 1088 qfK rfl) rfl];cases bs with
 |false =>
  simp[qfK,Fr.ofArgs,e1093,hl]
 |true =>
  have hg:qhi b=false:=by
   cases hg:qhi b with
   |false=>rfl
   |true=>rw[qCh T hU hS b hb hg] at e1093;cases e1093
  unfold qhi at hg;simp only[Bool.or_eq_false_iff,decide_eq_false_iff_not] at hg;have hbl:b.Blocks.l.length≤100000:=by omega
  have hho:b.Holds.l.length≤100:=by
   have:=hg.1.1.1.1.2
   unfold qi2 at this;simp only[Bool.or_eq_false_iff,decide_eq_false_iff_not] at this;omega
  obtain⟨r,e635,L,t,e,rfl,hL⟩:=qCt T hH hC b.Holds.l b.Holds.t (by omega) hb.2.2.2.2.2.2.2.1.2 h hh
  by_cases he:e=0
  ·subst he;have hL':=hL rfl
   subst hL';have e634:=quK T hU b i d hb hbl
   have hb2:(qfy b h t).ok:=by
    obtain⟨h1,h2,h3,h4,h5,h6,h7,h8,h9⟩:=hb;refine⟨h1,h2,h3,h4,h5,h6,h7,⟨?_,?_⟩,h9⟩
    ·show (b.Holds.l++[h]).length≤maxLen
     rw[zzp];simp;omega
    ·intro y hy;rcases List.mem_append.1 hy with hy|hy
     ·exact h8.2 y hy
     ·rw[List.mem_singleton.1 hy];exact hh
   have e634':=quK T hU (qfy b h t) i d hb2 hbl
   have mk20 : ∀(q:PV→Option (PV×Bool)),bo (mkP (K1 22) (putAt (PV.d b.dv).cells 20 (PV.cells (.d (.l (K1 6) (List.map AHold.dv b.Holds.l++[h.dv]) t))))) (.h q)=q (.d (qfy b h t).dv):=fun q=>by
    rw[show List.map AHold.dv b.Holds.l++[h.dv]=(b.Holds.l++[h]).map AHold.dv by simp];rfl
   have cl22:(PV.d b.dv).cells.length=22:=rfl
   have a1:=qLp b h t i d
   by_cases h0:(qa9 b i d).2=0
   ·have a2:=qE0 b h t i d h0
    unfold qo1 at a2;by_cases q1:h.Account=i
    ·by_cases q2:h.From≤d
     ·by_cases q3:d≤h.To
      ·have a3:(qa9 (qfy b h t) i d).1=IntKind.i64.wrap ((qa9 b i d).1-h.Amount):=by rw[a2,if_pos (by simp[q1,q2,q3])]
       simp[qfK,Fr.ofArgs,e1093,e635,e634,e634',↓mk20,cl22,qfY,qkQ,qcr,a1,a3,h0,q1,q2,q3,hl,bne]
      ·have a3:(qa9 (qfy b h t) i d).1=(qa9 b i d).1:=by rw[a2,if_neg (by simp[q1,q2,q3])]
       simp[qfK,Fr.ofArgs,e1093,e635,e634,e634',↓mk20,cl22,qfY,qkQ,qcr,a1,a3,h0,q1,q2,q3,hl,bne]
     ·have a3:(qa9 (qfy b h t) i d).1=(qa9 b i d).1:=by rw[a2,if_neg (by simp[q1,q2])]
      simp[qfK,Fr.ofArgs,e1093,e635,e634,e634',↓mk20,cl22,qfY,qkQ,qcr,a1,a3,h0,q1,q2,hl,bne]
    ·have a3:(qa9 (qfy b h t) i d).1=(qa9 b i d).1:=by rw[a2,if_neg (by simp[q1])]
     have f1:=qeP q1
     simp[qfK,Fr.ofArgs,e1093,e635,e634,e634',↓mk20,cl22,qfY,qkQ,qcr,a1,a3,h0,f1,hl,bne]
   ·have a2:=qGF b h t i d h0
    have f0:=qeP h0
    simp[qfK,Fr.ofArgs,e1093,e635,e634,e634',↓mk20,cl22,qfY,qkQ,qcr,a1,a2,f0,hl,bne]
  ·have f0:=qeP he
   simp[qfK,Fr.ofArgs,e1093,e635,f0,hl,bne]
theorem qDp {xs:List DV} {x:ABooks} (e:DV.a xs=x.dv) (h:qam ABooks.ty xs):qam ABooks.ty x.cells:=by
 have:xs=x.cells:=DV.a.inj e
 rw[←this];exact h
end Go.Sim
end
end
