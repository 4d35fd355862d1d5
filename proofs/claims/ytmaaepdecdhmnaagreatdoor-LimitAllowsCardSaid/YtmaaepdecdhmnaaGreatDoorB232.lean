/- Part 23, third of the proof. -/
import Derived.Test.YtmaaepdecdhmnaaGreatDoorB231
set_option linter.all false
namespace Go.Sim
set_option maxRecDepth 100000
set_option maxHeartbeats 8000000
section
attribute [local simp ↓] qdZ qdX qdP qdY qdM qdQ qdN qdO sqK blK lpK qd4 qd2 qd0 qd3 qd1 qdI qdK qeu qdo qdm qdn qdr qcS qcT qcD qcG qcR qcV qcF qcW qcL qcN qcO qcP qcU qcQ qcE qcH qcj qcI qcM qdk qdh qcY qcX qc6 qcZ qbu qbC qc0 qc1 qd6 qcu qd5 qes qcz qdc qdd qc7 qc9 qc8 qcl qdl qcn qc3 qdg qdb qda qc5 qc4 qdf qdi qc2 qde qdJ qck qcy qdz qcw qbR qdA qco qcp qdj qbV qer qcJ qdp qdq qd8 qet qd7 qdR qdS qdT qdU qdV qdW qcK qdy qew qeP qeQ qeN qeO qeM qev qeT qeR qfn qeS qfs qfJ qcm
attribute [local simp] qbO qd9 qea qdE qdF qds qdt qep qeq qdB qdC rd IOp.adds qaq gh nid rgK rdS qdG qdH qeb qec qeg qeh qek qef qej qei qcC qcA qcB qee qed qdx qdw qem qel qen qeo qeC qeB qeE qeD qeH qeA qeI qfq qfj qfp qfo
section
attribute [local simp ↓] qbJ qbT qbx qeG qbS qfk qbt qbw qce qeV qeW qcq qcr qbv qey qbz qe0 qeZ qe6 qfi qeY qfg qff qbD qe2 qbX qe3 qe5 qe4 qe7 qe1 qe9 qfb qfe qfd qfc qe8 qfa qfh qex qeX
attribute [local simp] qby qbe writeS touchS qaD qa4 chg qbm qbb qaY qbc PV.refs PV.refsL IOp.okD IOp.barr qb2 Nat.testBit
attribute [local simp] gc Fr.keep qaf qae qad PV.refs PV.refsL qaj gcH qai Obj.refs PV.ren PV.renL Obj.ren Heap.obj Fr.ren gh zzd
section
attribute [local simp] qhr qiH qbY
attribute [local simp ↓] qaZ qbk qaA qaC qaB
attribute [local simp] putAt mkA qal qax qaH qay Fr.ofArgs
attribute [local simp] qlV qlW
set_option maxRecDepth 10000
set_option maxHeartbeats 4000000
theorem qCD(T:Tab)(op:Int)(vs:List AValue)(t:Bool)(z:DV)(hn:vs.length*56≤140737488355328){k:KC (PV×Bool)}{r:Option (PV×Bool)}{fr:Fr}{H:Heap}
  (he:k (.exit 0) [(22,.d (.b false)),(7,.d (I vs.length)),(6,qao K0 (vs.map fun v=>I v.Typ)),(4,pB 0 (vs.map fun v=>I v.Typ)),(1,.d (.l (K1 2) (vs.map AValue.dv) t)),(0,.d (I op))] (qbd K0 [some (.box (K1 2) (.d z))] (vs.map fun v=>I v.Typ))=r)
  (h0:gc [0,1,4,6,7] 0 ⟨fr,H⟩=⟨[(7,.d (I 0)),(6,.d (.l K0 [] true)),(4,.p 0 0 0),(1,.d (.l (K1 2) (vs.map AValue.dv) t)),(0,.d (I op))],[some (.box (K1 2) (.d z))]⟩) :
  kC T.env 0 fr H (.h (.loop [0,1,4,6,7] qlV,k))=r:=by
 refine qf1 (fun p:Nat×List DV=>⟨[(7,.d (I p.1)),(6,qao K0 p.2),(4,pB 0 p.2),(1,.d (.l (K1 2) (vs.map AValue.dv) t)),(0,.d (I op))],qbd K0 [some (.box (K1 2) (.d z))] p.2⟩) (fun i=>(i,(vs.take i).map fun v=>I v.Typ)) vs.length ?_ ?_ (by rw[h0];rfl)
 ·intro B _;simp only[List.take_length];rw[←he];have h1:¬((vs.length:Int)<vs.length):=by omega
  simp[qlV]
 ·intro B _ i hi c hc;have h1:(i:Int)<vs.length:=by omega
  have h3:=wr1 (i:=i) (by omega)
  have hl:((vs.take i).map fun v=>I v.Typ).length≤i:=by simp;omega
  simp only[qkV (fun v:AValue=>I v.Typ) vs i hi]at hc
  simp only;generalize (vs.take i).map (fun v=>I v.Typ)=o at *
  cases o with
  |nil =>
   simp only[qao,qbd,pB,List.nil_append]at hc⊢;simp[h1,hi,h3];exact hc _ _ (by simp)
  |cons x o =>
   simp only[qao,qbd,pB,List.cons_append]at hc⊢;simp only[zzn]at hl;have h5:(o.length+1+1)*8≤140737488355328:=by omega
   have ht:o.take o.length=o:=zzv (by simp)
   simp[h1,hi,h3,h5,ht];exact hc _ _ (by simp)
theorem qCE(T:Tab)(hV:HV T)(op w:Int)(vs:List AValue)(t:Bool)(z:DV)(hn:vs.length*56≤140737488355328){k:KC (PV×Bool)}{r:Option (PV×Bool)}{fr:Fr}{H:Heap}
  (he:vs.all okV=true→k (.exit 2) [(50,.d (.b false)),(10,.d (I vs.length)),(8,.d (I w)),(4,.p 0 0 0),(1,.d (.l (K1 2) (vs.map AValue.dv) t)),(0,.d (I op))] [some (.box (K1 2) (.d z))]=r)
  (hr:vs.all okV=false→∀fr J,fr.get 4 = .p 0 0 0→fr.get 5 = .d (I 1)→qak fr=[]→k .ret fr (some (.box (K1 2) (.d (.a [I 0,I 0])))::J)=r)
  (h0:gc [0,1,4,8,10] 0 ⟨fr,H⟩=⟨[(10,.d (I 0)),(8,.d (I w)),(4,.p 0 0 0),(1,.d (.l (K1 2) (vs.map AValue.dv) t)),(0,.d (I op))],[some (.box (K1 2) (.d z))]⟩) :
  kC T.env 0 fr H (.h (.loop [0,1,4,8,10] qlW,k))=r:=by
 refine qbB (fun i:Nat=>⟨[(10,.d (I i)),(8,.d (I w)),(4,.p 0 0 0),(1,.d (.l (K1 2) (vs.map AValue.dv) t)),(0,.d (I op))],[some (.box (K1 2) (.d z))]⟩) (fun i=>i≤vs.length∧(vs.take i).all okV=true) (fun i=>vs.length-i) ?_ 0 ⟨zzK _,by simp⟩ h0
 rintro B-i ⟨hi,ha⟩ hx;by_cases hlt:i<vs.length
 ·have h1:(i:Int)<vs.length:=by omega
  have h3:=wr1 (i:=i) (by omega)
  have e:=qtj T hV vs[i]
  cases hk:okV vs[i]with
  |true =>
   rw[hk]at e;have hx':=hx (i+1) ⟨by omega,by rw[zzw hlt,List.all_append,ha];simp[hk]⟩ (by omega)
   simp[h1,hlt,e,h3];exact hx' _ _ (by simp)
  |false =>
   rw[hk]at e;have hf:vs.all okV=false:=by
    rw[List.all_eq_false];exact⟨vs[i],zzs hlt,by simp[hk]⟩
   have hr':=hr hf
   simp[h1,hlt,e];exact hr' _ _ (by simp[Fr.get]) (by simp[Fr.get]) (by simp[qak,gh])
 ·have:i=vs.length:=by omega
  subst this;rw[List.take_length]at ha;have he':=he ha
  have h1:¬((vs.length:Int)<vs.length):=by omega
  simp;exact he'
theorem qxA{op:Int}{ts:List Int}(h:(qaO op ts).2=true):5≤op∧op≤19∧ts.length≤3:=by
 unfold qaO at h;by_cases ha:ts.all qbl=true
 ·rw[if_pos ha]at h;match ts,h with
  | [],h=>cases h
  | [a],h =>
   have ho:(qbM op a).2=true:=by
    by_cases c:(qbM op a).2=true
    ·exact c
    ·simp only at h;rw[if_neg c]at h;cases h
   have:=qoB ho
   exact⟨by omega,by omega,by simp⟩
  | [a,b],h =>
   have ho:(qa7 op a b).2=true:=by
    by_cases c:(qa7 op a b).2=true
    ·exact c
    ·simp only at h;rw[if_neg c]at h;cases h
   unfold qa7 at ho;refine⟨?_,?_,by simp⟩<;>(
    by_cases h1:op=10∨op=11
    ·omega
    rw[if_neg h1]at ho;by_cases h2:op=12∨op=13
    ·omega
    rw[if_neg h2]at ho;by_cases h3:op=14∨op=15
    ·omega
    rw[if_neg h3]at ho;by_cases h4:op=17∨op=18
    ·omega
    rw[if_neg h4]at ho
    have:=qp9 (show arV op a b≠0 by simpa using ho)
    omega)
  | [a,b,c],h =>
   simp only at h;by_cases c':op=19∧a=5∧b=c
   ·exact⟨by omega,by omega,by simp⟩
   ·rw[if_neg c']at h;cases h
  | _::_::_::_::_,h=>cases h
 ·rw[if_neg ha]at h;cases h
theorem qwM{z:Int}(h0 : -1000000000000000000000≤z)(h1:z≤1000000000000000000000) : -9223372036854775808≤qbF z 1000000∧qbF z 1000000<9223372036854775808:=by
 rw[←qwN z 1000000 (by omega)]
 split<;>omega
theorem ar7:∀a∈[1,2,3,4,5],∀b∈[1,2,3,4,5],arV 7 a b≠0→scB a=true∧scB b=true:=by decide
theorem ar8:∀a∈[1,2,3,4,5],∀b∈[1,2,3,4,5],arV 8 a b≠0→(arV 8 a b=1↔a=b)∧(arV 8 a b=1∨arV 8 a b=2∨arV 8 a b=3)∧(a=b∨a=2∨a=3):=by decide
theorem qv2{t:Int}(h:qbl t=true):t∈[1,2,3,4,5]:=by
 simp only[qbl,zzf,zzq]at h;simp only[List.mem_cons,zzC,or_false];omega
theorem qx5{op a b:Int}(ho:5≤op∧op≤8):qa7 op a b=(arV op a b,!decide (arV op a b=0)):=by
 unfold qa7;rw[if_neg (by omega),if_neg (by omega),if_neg (by omega),if_neg (by omega)]
theorem qwG{x y A B:Int}(x0 : -A≤x)(x1:x≤A)(y0 : -B≤y)(y1:y≤B)(hA:0≤A) : -(A*B)≤x*y∧x*y≤A*B:=by
 have h:x.natAbs*y.natAbs≤A.natAbs*B.natAbs:=Nat.mul_le_mul (by omega) (by omega)
 have e1:(x*y).natAbs=x.natAbs*y.natAbs:=Int.natAbs_mul x y
 have e2:(A*B).natAbs=A.natAbs*B.natAbs:=Int.natAbs_mul A B
 have hB:0≤A*B:=Int.mul_nonneg hA (by omega)
 omega
theorem qH5{a b:AValue}(ha:okV a=true)(hb:okV b=true)(s1:scB a.Typ=true)(s2:scB b.Typ=true)(h5:a.Typ+b.Typ=5)(_hn:a.Typ≠b.Typ) : -9223372036854775808≤qbF (a.N*b.N) 1000000∧qbF (a.N*b.N) 1000000<9223372036854775808:=by
 have s1:=qkP s1
 have s2:=qkP s2
 have q:∀v:AValue,okV v=true→v.Typ=3→-1000000000≤v.N∧v.N≤1000000000:=by
  intro v h ht;unfold okV at h;rw[if_neg (by omega),if_neg (by omega),if_pos ht]at h
  simpa using h
 rcases (show a.Typ=2∧b.Typ=3∨a.Typ=3∧b.Typ=2 by omega)with h|h
 ·have k1:=qsD ha (.inl h.1)
  have k2:=q b hb h.2
  have:=qwG k1.1 k1.2 k2.1 k2.2 (by omega)
  exact qwM (by omega) (by omega)
 ·have k1:=qsD hb (.inl h.2)
  have k2:=q a ha h.1
  have:=qwG k2.1 k2.2 k1.1 k1.2 (by omega)
  exact qwM (by omega) (by omega)
theorem qHN{op:Int}{a:AValue}(h:(qaO op [a.Typ]).2=true)(ha:okV a=true):(op=9∧(qaO op [a.Typ]).1=a.Typ)∨(op=16∧qbi (qaO op [a.Typ]).1 true op [a]=(trV (a.N==0),0)):=by
 unfold qaO at h⊢;by_cases hk:[a.Typ].all qbl=true
 ·rw[if_pos hk]at h⊢;simp only at h⊢;have ho:(qbM op a.Typ).2=true:=by
   by_cases c:(qbM op a.Typ).2=true
   ·exact c
   ·rw[if_neg c]at h;cases h
  rw[if_pos ho];rcases qoB ho with rfl|rfl
  ·exact .inl ⟨rfl,rfl⟩
  ·refine .inr ⟨rfl,?_⟩;have h5:a.Typ=5:=by simpa[qbM]using ho
   have h01:a.N=0∨a.N=1:=by simpa[okV,h5]using ha
   have e:qbM 16 a.Typ=(5,decide (a.Typ=5)):=rfl
   rw[e];unfold qbi trV chP;rcases h01 with h|h<;>simp[h,ha]<;>decide
 ·rw[if_neg hk]at h;cases h
theorem qJs{op:Int}{a b:AValue}(h:(qaO op [a.Typ,b.Typ]).2=true)(ha:okV a=true)(hb:okV b=true) :
  op=5∨op=6∨(op=7∧scB a.Typ=true∧scB b.Typ=true)∨(op=8∧((qaO op [a.Typ,b.Typ]).1=1↔a.Typ=b.Typ)∧((qaO op [a.Typ,b.Typ]).1=1∨(qaO op [a.Typ,b.Typ]).1=2∨(qaO op [a.Typ,b.Typ]).1=3)∧(a.Typ=b.Typ∨a.Typ=2∨a.Typ=3)) ∨
  (op=17∧qbi (qaO op [a.Typ,b.Typ]).1 true op [a,b]=(if (decide (a.N<b.N)==(op==17))=true then a else b,0))∨(op=18∧qbi (qaO op [a.Typ,b.Typ]).1 true op [a,b]=(if (decide (a.N<b.N)==(op==17))=true then a else b,0)) ∨
  (10≤op∧op≤15∧qbi (qaO op [a.Typ,b.Typ]).1 true op [a,b]=(trV (qhN op a.N b.N),0)):=by
 unfold qaO at h⊢;by_cases hk:[a.Typ,b.Typ].all qbl=true
 ·rw[if_pos hk]at h⊢;simp only at h⊢;have ho:(qa7 op a.Typ b.Typ).2=true:=by
   by_cases c:(qa7 op a.Typ b.Typ).2=true
   ·exact c
   ·rw[if_neg c]at h;cases h
  rw[if_pos ho];simp only[List.all_cons,List.all_nil,Bool.and_true,zzf]at hk;have ka:=qv2 hk.1
  have kb:=qv2 hk.2
  have hop:5≤op∧op≤18∧op≠9∧op≠16:=by
   have h1:=qxA (op:=op) (ts:=[a.Typ,b.Typ]) (by unfold qaO;rw[if_pos (by simp[hk.1,hk.2])];simp only;rw[if_pos ho])
   have h2:=qth ho
   omega
  rcases (show op=5∨op=6∨op=7∨op=8∨op=17∨op=18∨(10≤op∧op≤15)by omega)with rfl|rfl|rfl|rfl|rfl|rfl|hc
  ·exact .inl rfl
  ·exact .inr (.inl rfl)
  ·rw[qx5 ⟨by decide,by decide⟩]at ho
   exact .inr (.inr (.inl ⟨rfl,ar7 _ ka _ kb (by simpa using ho)⟩))
  ·rw[qx5 ⟨by decide,by decide⟩]at ho⊢
   exact .inr (.inr (.inr (.inl ⟨rfl,ar8 _ ka _ kb (by simpa using ho)⟩)))
  ·refine .inr (.inr (.inr (.inr (.inl ⟨rfl,?_⟩))));have e:qa7 17 a.Typ b.Typ=(a.Typ,decide (a.Typ=b.Typ) && !decide (a.Typ=5)):=rfl
   rw[e]at ho⊢;simp only[zzf,zzq]at ho;obtain⟨ta,na⟩:=a;obtain⟨tb,nb⟩:=b;simp only at ho⊢;obtain⟨rfl,-⟩:=ho;unfold qbi chP qeU;by_cases c:na<nb
   ·simp[ha,hb,c,show ¬nb<na by omega]
   ·by_cases d:nb<na
    ·simp[ha,hb,c,d]
    ·have:na=nb:=by omega
     subst this;simp[ha]
  ·refine .inr (.inr (.inr (.inr (.inr (.inl ⟨rfl,?_⟩)))));have e:qa7 18 a.Typ b.Typ=(a.Typ,decide (a.Typ=b.Typ) && !decide (a.Typ=5)):=rfl
   rw[e]at ho⊢;simp only[zzf,zzq]at ho;obtain⟨ta,na⟩:=a;obtain⟨tb,nb⟩:=b;simp only at ho⊢;obtain⟨rfl,-⟩:=ho;unfold qbi chP qeU;by_cases c:na<nb
   ·simp[ha,hb,c]
   ·simp[ha,hb,c]
  ·refine .inr (.inr (.inr (.inr (.inr (.inr ⟨hc.1,hc.2,?_⟩)))));rcases (show op=10∨op=11∨op=12∨op=13∨op=14∨op=15 by omega)with rfl|rfl|rfl|rfl|rfl|rfl
   ·have e:qa7 10 a.Typ b.Typ=(5,decide (a.Typ=b.Typ)):=rfl
    rw[e];unfold qbi chP qeU trV qhN;by_cases c:a.N=b.N<;>simp[ha,hb,c]
   ·have e:qa7 11 a.Typ b.Typ=(5,decide (a.Typ=b.Typ)):=rfl
    rw[e];unfold qbi chP qeU trV qhN;by_cases c:a.N=b.N<;>simp[ha,hb,c]
   ·have e:qa7 12 a.Typ b.Typ=(5,decide (a.Typ=b.Typ) && !decide (a.Typ=5)):=rfl
    rw[e];unfold qbi chP qeU trV qhN;by_cases c:a.N<b.N<;>simp[ha,hb,c]
   ·have e:qa7 13 a.Typ b.Typ=(5,decide (a.Typ=b.Typ) && !decide (a.Typ=5)):=rfl
    rw[e];unfold qbi chP qeU trV qhN;by_cases c:a.N≤b.N<;>simp[ha,hb,c]
   all_goals
    have h5:a.Typ=b.Typ∧a.Typ=5:=by simpa[qa7]using ho
    have h6:b.Typ=5:=by omega
    have ga:a.N=0∨a.N=1:=by simpa[okV,h5.2]using ha
    have gb:b.N=0∨b.N=1:=by simpa[okV,h6]using hb
   ·have e:qa7 14 a.Typ b.Typ=(5,decide (a.Typ=b.Typ)&&decide (a.Typ=5)):=rfl
    rw[e];unfold qbi chP qeU trV qhN
    rcases ga with ga|ga<;>rcases gb with gb|gb<;>simp[ha,hb,ga,gb]<;>decide
   ·have e:qa7 15 a.Typ b.Typ=(5,decide (a.Typ=b.Typ)&&decide (a.Typ=5)):=rfl
    rw[e];unfold qbi chP qeU trV qhN
    rcases ga with ga|ga<;>rcases gb with gb|gb<;>simp[ha,hb,ga,gb]
 ·rw[if_neg hk]at h;cases h
theorem qJV(T:Tab)(hR:HR T)(hV:HV T)(hS:HS T)(op:Int)(vs:List AValue)(t:Bool)(hi:∀v∈vs,v.i)(h:(qaO op (vs.map (·.Typ))).2=true):T.val 1049 [I op,.l (K1 2) (vs.map AValue.dv) t]=some (qam (qfY op vs)):=by
 obtain⟨o0,o1,hl⟩:=qxA h;rw[zzo]at hl;have lp0:=fun k r fr H => @qCD T op vs t (.a [I 0,I 0]) (by omega) k r fr H
 have lp1:=fun w k r fr H => @qCE T hV op w vs t (.a [I 0,I 0]) (by omega) k r fr H
 have e925:=qyN T hS op (vs.map (·.Typ)) false (by simpa using hl) ⟨o0,o1⟩
 rw[List.map_map]at e925;have hmm:((fun n=>I n)∘fun v:AValue=>v.Typ)=fun v:AValue=>I v.Typ:=rfl
 rw[hmm]at e925;unfold qfY;obtain⟨w,hw⟩:∃w,qaO op (vs.map (·.Typ))=(w,true):=⟨(qaO op (vs.map (·.Typ))).1,by rw[←h]⟩
 rw[hw]at e925⊢;unfold qaz at e925;simp only at e925⊢;obtain⟨r,hr⟩:∃r,some (qam (qbi w true op vs))=r:=⟨_,rfl⟩;rw[qab T (hR 1049 qk8 rfl) rfl,hr];simp[qk8,Fr.ofArgs];refine lp0 _ _ _ _ ?_ (by simp)
 cases ho:vs.map (fun v=>I v.Typ)with
 |nil =>
  have hv:vs=[]:=by simpa using ho
  subst hv;simp[qaO]at h
 |cons x o =>
  rw[ho]at e925;have ht:o.take o.length=o:=zzv (by simp)
  have l0:((vs.length:Int)==0)=false:=qac (by have:=congrArg List.length ho;simp at this;omega)
  simp[qao,qbd,pB,ht,qaK,pur,qa9,PV.scal,PV.scal1,DV.scal,DV.scal1,e925,l0];refine lp1 w _ _ _ _ (fun ha => ?_) (fun ha fr J f4 f5 fg => ?_) (by simp)
  ·rw[←hr];clear hr lp0 lp1 e925
   have e52:=fun n h0 h1=>qgr T hR n h0 h1
   match vs,hi,h,hw,ha,hl with
   | [a],hi,h,hw,ha,_ =>
    have ia:=hi a (by simp)
    have ka:okV a=true:=by simpa using ha
    have w0:IntKind.i64.wrap 0=0:=by decide
    have e52:=qgr T hR a.N ia.1 ia.2
    have hw1:(qaO op [a.Typ]).1=w:=by rw[show [a.Typ]=[a].map (·.Typ)from rfl,hw]
    rcases qHN (op:=op) (a:=a) h ka with ⟨rfl,hw2⟩|⟨rfl,hq⟩
    ·have e55:T.val 1055 [.a [I 0,.i .u64 0],(Wd a.N).dv]=some (.t [.d (Wd (0-a.N)).dv,.d (I 0)],false):=qtl T hR 0 a.N (by omega) (by omega) (by have:=ia.1;omega) (by have:=ia.2;omega) (by have:=ia.2;omega) (by have:=ia.1;omega)
     have e54:=qjR T hR hV w (0-a.N) (by have:=ia.2;omega) (by have:=ia.1;omega)
     have q:qbi w true 9 [a]=qfx w (0-a.N):=by
      rw[qju,show 0-a.N = -a.N by omega]
      unfold qbi qhb clP;simp[ka]
     rw[q];unfold qam at *
     simp[w0,e52,e55,e54,-Int.zero_sub]
    ·rw[hw1]at hq;have e59:=qJ0 T hR a t
     rw[hq];unfold qam at *
     simp[w0,e52,e59]
   | [a,b],hi,h,hw,ha,_ =>
    have ia:=hi a (by simp)
    have ib:=hi b (by simp)
    have kab:okV a=true∧okV b=true:=by simpa using ha
    have ka:=kab.1
    have kb:=kab.2
    have e52:=qgr T hR a.N ia.1 ia.2
    have e52b:=qgr T hR b.N ib.1 ib.2
    have hw1:(qaO op [a.Typ,b.Typ]).1=w:=by rw[show [a.Typ,b.Typ]=[a,b].map (·.Typ)from rfl,hw]
    have law:=qJs (op:=op) (a:=a) (b:=b) h ka kb
    rw[hw1]at law;obtain⟨a0,a1⟩:=ia;obtain⟨b0,b1⟩:=ib;have w2:IntKind.i64.wrap 1=1:=by decide
    rcases law with rfl|rfl|⟨rfl,s1,s2⟩|⟨rfl,t1,t2,t3⟩|⟨rfl,q⟩|⟨rfl,q⟩|⟨c0,c1,q⟩
    ·have e53:=qyf T hR a.N b.N (by omega) (by omega) (by omega) (by omega) (by omega) (by omega)
     have e54:=qjR T hR hV w (a.N+b.N) (by omega) (by omega)
     have q:qbi w true 5 [a,b]=qfx w (a.N+b.N):=by
      rw[qju];unfold qbi qhb clP qgP;simp[ka,kb]
     rw[q];unfold qam at *
     simp[w2,e52,e52b,e53,e54]
    ·have e55:=qtl T hR a.N b.N (by omega) (by omega) (by omega) (by omega) (by omega) (by omega)
     have e54:=qjR T hR hV w (a.N-b.N) (by omega) (by omega)
     have q:qbi w true 6 [a,b]=qfx w (a.N-b.N):=by
      rw[qju];unfold qbi qhb clP qgP;simp[ka,kb]
     rw[q];unfold qam at *
     simp[w2,e52,e52b,e55,e54]
    ·have sa:=qkP s1
     have sb:=qkP s2
     have e56:=qJW T hR hV w a b ⟨a0,a1⟩ ⟨b0,b1⟩ (by omega) (by omega) (fun h5 hn=>qH5 ka kb s1 s2 h5 hn)
     rw[qH8 w a b s1 s2]at e56;have q:qbi w true 7 [a,b]=qhb w (qiI a b):=by
      unfold qbi qhb clP qgP;simp[ka,kb]
     rw[q];unfold qam at *
     simp[w2,e52,e52b,e56]
    ·have e57:=qJX T hR hV w a b ⟨a0,a1⟩ ⟨b0,b1⟩
     have q:qbi w true 8 [a,b]=qkK w a b:=by
      by_cases z:b.N=0
      ·unfold qkK qbi clP qgP;simp[ka,kb,z]
      ·rw[qIf w a b ⟨a0,a1⟩ ⟨b0,b1⟩ z t1 t2 (fun hn=>qsD ka (by rcases t3 with g|g;exact absurd g hn;exact g))]
       unfold qbi qhb clP qgP;simp[ka,kb,z]
     rw[q];unfold qam at *
     simp[w2,e52,e52b,e57]
    ·have e58:=qyh T hR 17 a b t (by decide)
     rw[q];unfold qam at *
     simp[w2,e52,e52b,e58]
    ·have e58:=qyh T hR 18 a b t (by decide)
     rw[q];unfold qam at *
     simp[w2,e52,e52b,e58]
    ·have e59:=qJZ T hR op a b t
     have g5:=qac (show op≠5 by omega)
     have g6:=qac (show op≠6 by omega)
     have g9:=qac (show op≠9 by omega)
     have g7:=qac (show op≠7 by omega)
     have g8:=qac (show op≠8 by omega)
     have g17:=qac (show op≠17 by omega)
     have g18:=qac (show op≠18 by omega)
     have g19:=qac (show op≠19 by omega)
     rw[q];unfold qam at *
     simp[w2,e52,e52b,e59,g5,g6,g7,g8,g9,g17,g18,g19]
   | [c,a,b],hi,h,hw,ha,_ =>
    have ic:=hi c (by simp)
    have ib:=hi b (by simp)
    have e52:=qgr T hR c.N ic.1 ic.2
    have e52b:=qgr T hR b.N ib.1 ib.2
    have w2:IntKind.i64.wrap 2=2:=by decide
    have hop:op=19∧c.Typ=5∧a.Typ=b.Typ:=by
     unfold qaO at h;by_cases g:([c,a,b].map (·.Typ)).all qbl=true
     ·rw[if_pos g]at h;simp only[zzu,List.map_nil]at h;by_cases c':op=19∧c.Typ=5∧a.Typ=b.Typ
      ·exact c'
      ·rw[if_neg c']at h;cases h
     ·rw[if_neg g]at h;cases h
    obtain⟨rfl,h5,hab⟩:=hop;have hwb:w=a.Typ:=by
     unfold qaO at hw;by_cases g:([c,a,b].map (·.Typ)).all qbl=true
     ·rw[if_pos g]at hw;simp only[zzu,List.map_nil]at hw;rw[if_pos ⟨trivial,h5,hab⟩]at hw;injection hw with h1 _
      exact h1.symm
     ·rw[if_neg g]at hw;cases hw
    have e58:=qJY T hR c a b t
    have q:qbi w true 19 [c,a,b]=(if c.N=1 then a else b,0):=by
     have kk:[c,a,b].all okV=true:=ha
     unfold qbi chP;rw[if_neg (by decide),if_neg (by rw[kk];decide),if_pos (.inr (by decide))]
     obtain⟨tb,nb⟩:=b;obtain⟨ta,na⟩:=a;simp only at hab hwb;subst hab hwb;by_cases g:c.N=1<;>simp[g]
    rw[q];unfold qam at *
    simp[w2,e52,e52b,e58]
  ·have q:qbi w true op vs=(⟨0,0⟩,1):=by unfold qbi;rw[if_neg (by decide),if_pos ha]
   rw[←hr,q];simp[f4,f5,fg,qam,AValue.dv]
end
theorem qLE(T:Tab)(hS:HS T)(op:Int):T.val 951 [I op]=some (.d (I (qbU op)),false):=by
 rw[qab T (hS 951 qgL rfl) rfl];by_cases h1:op<1
 ·rw[qbU,if_neg (by omega),if_neg (by omega),if_neg (by omega),if_neg (by omega)]
  simp[qgL,Fr.ofArgs,h1]
 by_cases h2:19<op
 ·rw[qbU,if_neg (by omega),if_neg (by omega),if_neg (by omega),if_neg (by omega)]
  simp[qgL,Fr.ofArgs,h1,h2]
 by_cases h3:op≤4
 ·rw[qbU,if_pos (by omega)]
  simp[qgL,Fr.ofArgs,h1,h2,h3]
 by_cases c9:op=9
 ·subst c9;rw[show qbU 9=1 from rfl]
  simp[qgL,Fr.ofArgs]
 have d9:=qac c9
 by_cases c16:op=16
 ·subst c16;rw[show qbU 16=1 from rfl]
  simp[qgL,Fr.ofArgs]
 have d16:=qac c16
 by_cases c19:op=19
 ·subst c19;rw[show qbU 19=3 from rfl]
  simp[qgL,Fr.ofArgs]
 have d19:=qac c19
 rw[qbU,if_neg (by omega),if_neg (by omega),if_neg c19,if_pos (by omega)]
 simp[qgL,Fr.ofArgs,h1,h2,h3,d9,d16,d19]
theorem qLF(T:Tab)(hS:HS T)(op:Int):T.val 952 [I op]=some (.d (I (qgk op)),false):=by
 rw[qab T (hS 952 qie rfl) rfl];by_cases c1:op=1
 ·subst c1;rw[show qgk 1=9223372036854775807 from rfl]
  simp[qie,Fr.ofArgs]
 have d1:=qac c1
 by_cases c2:op=2
 ·subst c2;rw[show qgk 2=1000000000000 from rfl]
  simp[qie,Fr.ofArgs]
 have d2:=qac c2
 by_cases c3:op=3
 ·subst c3;rw[show qgk 3=1000000 from rfl]
  simp[qie,Fr.ofArgs]
 have d3:=qac c3
 rw[qgk,if_neg c1,if_neg c2,if_neg c3];simp[qie,Fr.ofArgs,d1,d2,d3]
theorem qDi(T:Tab)(x:AExpr)(l:List AExpr)(h2:x.Args.l=l.map AExpr.dv)(g:AExpr→Bool)(hg:∀a∈l,T.val 921 [a.dv]=some (.d (.b (g a)),false))(hn:l.length*56≤140737488355328){k:KC (PV×Bool)}{r:Option (PV×Bool)}{fr:Fr}{H:Heap}
  (he:(l.any fun a => !(g a))=false→k (.exit 0) [(38,.d (.b false)),(3,.d (I l.length)),(1,.p 0 0 0)] [some (.box (K1 4) (.d x.dv))]=r)
  (hr:(l.any fun a => !(g a))=true→∀fr J,fr.get 2 = .d (.b false)→qak fr=[]→k .ret fr J=r)
  (h0:gc [1,3] 0 ⟨fr,H⟩=⟨[(3,.d (I 0)),(1,.p 0 0 0)],[some (.box (K1 4) (.d x.dv))]⟩) :
  kC T.env 0 fr H (.h (.loop [1,3] qnv,k))=r:=by
 refine qbB (fun i:Nat=>⟨[(3,.d (I i)),(1,.p 0 0 0)],[some (.box (K1 4) (.d x.dv))]⟩) (fun i=>i≤l.length∧∀v∈l.take i,g v=true) (fun i=>l.length-i) ?_ 0 ⟨zzK _,by simp⟩ h0
 rintro B-i ⟨hi,ha⟩ hx;by_cases hlt:i<l.length
 ·have h1:(i:Int)<l.length:=by omega
  have h3:=wr1 (i:=i) (by omega)
  have e:=hg l[i] (zzs hlt)
  cases hk:g l[i]with
  |true =>
   rw[hk]at e;have hx':=hx (i+1) ⟨by omega,by
    rw[zzw hlt];intro v hv;rcases zzB.1 hv with hv|hv
    ·exact ha v hv
    ·rw[zzH.1 hv];exact hk⟩ (by omega)
   simp[h1,hlt,e,h2,h3];exact hx' _ _ (by simp)
  |false =>
   rw[hk]at e;have hf:(l.any fun a => !(g a))=true:=List.any_eq_true.2 ⟨l[i],zzs hlt,by simp[hk]⟩
   have hr':=hr hf
   simp[h1,hlt,e,h2];exact hr' _ _ (by simp[Fr.get]) (by simp[qak,gh])
 ·have:i=l.length:=by omega
  subst this;rw[List.take_length]at ha;have he':=he (by rw[List.any_eq_false];intro v hv;simp[ha v hv])
  have h1:¬((l.length:Int)<l.length):=by omega
  simp[h2];exact he'
theorem qLt(T:Tab)(hS:HS T)(x:AExpr)(l:List AExpr)(h2:x.Args.l=l.map AExpr.dv)(h4:l.length*56≤140737488355328)(g:AExpr→Bool)(hg:∀a∈l,T.val 921 [a.dv]=some (.d (.b (g a)),false)) :
  T.val 921 [x.dv]=some (.d (.b (qhT x && !(l.any fun a => !(g a)))),false):=by
 have lp:=fun k r fr H => @qDi T x l h2 g hg h4 k r fr H
 have e1:=qLE T hS x.Op
 have e2:=qLF T hS x.Op
 unfold qhT;obtain⟨o,n,s,a⟩:=x;obtain⟨a,t⟩:=a;simp only at h2 lp e1 e2⊢;rw[qab T (hS 921 F921 rfl) rfl];generalize qgk o=M at *
 have hq:(qbU o==(a.length:Int))=((a.length:Int)==qbU o):=Bool.beq_comm
 rw[hq];generalize qbU o=q at *
 by_cases c1:(a.length:Int)=q
 ·by_cases c2:n<0
  ·have c2':¬0≤n:=by omega
   simp[F921,Fr.ofArgs,e1,c1,c2,c2',bne]
  have c2':0≤n:=by omega
  by_cases c3:M<n
  ·have c3':¬n≤M:=by omega
   simp[F921,Fr.ofArgs,e1,e2,c1,c2,c2',c3,c3',bne]
  have c3':n≤M:=by omega
  by_cases c4:s=[]
  ·subst c4;by_cases c5:o=4
   ·subst c5;simp[F921,Fr.ofArgs,e1,e2,c1,c2,c2',c3,c3',bne];refine lp _ _ _ _ (fun h => ?_) (fun h fr J h4 hg => ?_) (by simp)
    ·rw[h];simp
    ·rw[h];simp[h4,hg]
   ·have g5:=qac c5
    simp[F921,Fr.ofArgs,e1,e2,c1,c2,c2',c3,c3',g5,bne];refine lp _ _ _ _ (fun h => ?_) (fun h fr J h4 hg => ?_) (by simp)
    ·rw[h];simp
    ·rw[h];simp[h4,hg]
  ·have g4:(s==[])=false:=by simpa using c4
   by_cases c5:o=4
   ·subst c5;simp[F921,Fr.ofArgs,e1,e2,c1,c2,c2',c3,c3',g4,bne];refine lp _ _ _ _ (fun h => ?_) (fun h fr J h4 hg => ?_) (by simp)
    ·rw[h];simp
    ·rw[h];simp[h4,hg]
   ·have g5:=qac c5
    simp[F921,Fr.ofArgs,e1,e2,c1,c2,c2',c3,c3',g4,g5,bne]
 ·have g1:=qac c1
  simp[F921,Fr.ofArgs,e1,g1,bne]
theorem qyL(T:Tab)(hS:HS T)(hT:HT T):∀(n:Nat) (x:AExpr),SizeOf.sizeOf x.dv<n→x.ok→∃b:Bool,T.val 921 [x.dv]=some (.d (.b b),false)∧(∀H0,Cl H0→T.ref 407 [.d x.dv,.f 408 []] H0=some (.d (.b b),H0))∧(b=true→qhT x=true∧∀l:List AExpr,x.Args.l=l.map AExpr.dv→∀a∈l,T.val 921 [a.dv]=some (.d (.b true),false)):=by
 intro n;induction n with
 |zero=>intro x h;exact absurd h (zzm _)
 |succ n ih =>
  intro x hn hx;obtain⟨l,h2,h3,h4⟩:=qiB hx;obtain⟨g,hg⟩:=qg9 (P:=fun (a:AExpr) (b:Bool)=>T.val 921 [a.dv]=some (.d (.b b),false)∧(∀H0,Cl H0→T.ref 407 [.d a.dv,.f 408 []] H0=some (.d (.b b),H0))) (fun a ha=>by
   obtain⟨b,q1,q2,-⟩:=ih a (by have:=qiA h2 ha;omega) (h3 a ha)
   exact⟨b,q1,q2⟩)
  refine⟨_,qLt T hS x l h2 h4 g (fun a ha=>(hg a ha).1),fun H0 hH=>qxy T hT 408 x l h2 h4 _ (qKu T hT x) g (fun a ha=>(hg a ha).2) H0 hH,fun hb => ?_⟩
  simp only[zzf,Bool.not_eq_true',List.any_eq_false]at hb;refine⟨hb.1,fun l' hl' a ha => ?_⟩
  have ha':a.dv∈l.map AExpr.dv:=by rw[←h2,hl'];exact List.mem_map_of_mem ha
  obtain⟨a',m,e⟩:=List.mem_map.1 ha'
  have:=hb.2 a' m
  have e1:=(hg a' m).1
  rw[show g a'=true by simpa using this]at e1
  rw[←e];exact e1
theorem qDh(T:Tab)(x:AExpr)(l:List AExpr)(h2:x.Args.l=l.map AExpr.dv)(g:AExpr→Int)(hg:∀a∈l,T.val 920 [a.dv]=some (.d (I (g a)),false))(hn:l.length*56≤140737488355328){k:KC (PV×Bool)}{r:Option (PV×Bool)}{fr:Fr}{H:Heap}
  (he:k (.exit 0) [(9,.d (.b false)),(4,.d (I l.length)),(3,.d (I (l.foldl (fun n a=>max n (g a)) 0))),(1,.p 0 0 0)] [some (.box (K1 4) (.d x.dv))]=r)
  (h0:gc [1,3,4] 0 ⟨fr,H⟩=⟨[(4,.d (I 0)),(3,.d (I 0)),(1,.p 0 0 0)],[some (.box (K1 4) (.d x.dv))]⟩) :
  kC T.env 0 fr H (.h (.loop [1,3,4] qpV,k))=r:=by
 refine qf1 (fun p:Nat×Int=>⟨[(4,.d (I p.1)),(3,.d (I p.2)),(1,.p 0 0 0)],[some (.box (K1 4) (.d x.dv))]⟩) (fun i=>(i,(l.take i).foldl (fun n a=>max n (g a)) 0)) l.length ?_ ?_ (by rw[h0];rfl)
 ·intro B _;simp only[List.take_length];rw[←he];have h1:¬((l.length:Int)<l.length):=by omega
  simp[h2]
 ·intro B _ i hi c hc;have h1:(i:Int)<l.length:=by omega
  have h3:=wr1 (i:=i) (by omega)
  have e:=hg l[i] (zzs hi)
  simp only[zzw hi,List.foldl_append,List.foldl_cons,List.foldl_nil]at hc;simp only;generalize (l.take i).foldl (fun n a=>max n (g a)) 0=m at *
  simp[h1,hi,h2,h3,e];exact hc _ _ (by simp)
theorem qLs(T:Tab)(hS:HS T)(hT:HT T):∀(n:Nat) (x:AExpr),SizeOf.sizeOf x.dv<n→x.ok→∃v:Int,T.val 406 [x.dv]=some (.d (I v),false)∧T.val 920 [x.dv]=some (.d (I v),false):=by
 intro n;induction n with
 |zero=>intro x h;exact absurd h (zzm _)
 |succ n ih =>
  intro x hn hx;obtain⟨l,h2,h3,h4⟩:=qiB hx;obtain⟨g,hg⟩:=qg9 (P:=fun (a:AExpr) (v:Int)=>T.val 406 [a.dv]=some (.d (I v),false)∧T.val 920 [a.dv]=some (.d (I v),false)) (fun a ha=>ih a (by have:=qiA h2 ha;omega) (h3 a ha))
  refine⟨_,qKt T hT x l h2 h4 g (fun a ha=>(hg a ha).1),?_⟩
  have lp:=fun k r fr H => @qDh T x l h2 g (fun a ha=>(hg a ha).2) h4 k r fr H
  rw[qab T (hS 920 F920 rfl) rfl];simp[F920,Fr.ofArgs];refine lp _ _ _ _ ?_ (by simp)
  simp
theorem qnK(x:AExpr)(m:Int):qap x.dv m=qa8 x.Args.l 1 m:=by
 unfold AExpr.dv;conv=>lhs;unfold qap
theorem qiu:∀(es:List DV) (n m:Int),n≤qa8 es n m
 | [],n,m=>by unfold qa8;omega
 |e::es,n,m=>by
  unfold qa8;split
  ·rename_i h;have h1:=(qme e (m-n) (by omega)).1
   have:=qiu es (n+qap e (m-n)) m
   omega
  ·omega
theorem qup{m m':Int}(hm:m≤m'):∀(l:List AExpr) (_:∀a∈l,∀q q':Int,0≤q→q≤q'→(qap a.dv q≤q→qap a.dv q'=qap a.dv q)∧(q<qap a.dv q→q<qap a.dv q')) (n:Int),(qa8 (l.map AExpr.dv) n m≤m→qa8 (l.map AExpr.dv) n m'=qa8 (l.map AExpr.dv) n m)∧(m<qa8 (l.map AExpr.dv) n m→m<qa8 (l.map AExpr.dv) n m')
 | [],_,n=>by simp[qa8]
 |a::l,h,n=>by
  simp only[zzu];by_cases hn:n≤m
  ·have e1:qa8 (a.dv::l.map AExpr.dv) n m=qa8 (l.map AExpr.dv) (n+qap a.dv (m-n)) m:=by conv=>lhs;unfold qa8;rw[if_pos hn]
   have e2:qa8 (a.dv::l.map AExpr.dv) n m'=qa8 (l.map AExpr.dv) (n+qap a.dv (m'-n)) m':=by conv=>lhs;unfold qa8;rw[if_pos (by omega)]
   rw[e1,e2];obtain⟨q1,q2⟩:=h a (by simp) (m-n) (m'-n) (by omega) (by omega)
   by_cases c:qap a.dv (m-n)≤m-n
   ·rw[q1 c];exact qup hm l (fun b hb=>h b (by simp[hb])) _
   ·have q2:=q2 (by omega)
    have g1:=qiu (l.map AExpr.dv) (n+qap a.dv (m-n)) m
    have g2:=qiu (l.map AExpr.dv) (n+qap a.dv (m'-n)) m'
    exact⟨fun k=>by omega,fun _=>by omega⟩
  ·have e1:qa8 (a.dv::l.map AExpr.dv) n m=n:=by conv=>lhs;unfold qa8;rw[if_neg hn]
   have g2:=qiu (a.dv::l.map AExpr.dv) n m'
   rw[e1];exact⟨fun k=>absurd k hn,fun _=>by omega⟩
theorem qzZ:∀(n:Nat) (x:AExpr),SizeOf.sizeOf x.dv<n→x.ok→∀m m':Int,0≤m→m≤m'→(qap x.dv m≤m→qap x.dv m'=qap x.dv m)∧(m<qap x.dv m→m<qap x.dv m'):=by
 intro n;induction n with
 |zero=>intro x h;exact absurd h (zzm _)
 |succ n ih =>
  intro x hn hx m m' h0 hm;obtain⟨l,h2,h3,h4⟩:=qiB hx;rw[qnK,qnK,h2];exact qup hm l (fun a ha q q'=>ih a (by have:=qiA h2 ha;omega) (h3 a ha) q q') 1
theorem qu9(g:AExpr→Int){m:Int}(hm:m≤1000):∀(l:List AExpr) (_:∀a∈l,∀q:Int,0≤q→q≤1000→qap a.dv q≤q→g a=qap a.dv q) (n:Int),1≤n→qa8 (l.map AExpr.dv) n m≤m→l.foldl (fun n a=>IntKind.i64.wrap (n+g a)) n=qa8 (l.map AExpr.dv) n m
 | [],_,n,_,_=>by simp[qa8]
 |a::l,h,n,hn1,hc=>by
  simp only[zzu]at hc⊢;have h0:=qiu (a.dv::l.map AExpr.dv) n m
  have hn:n≤m:=by omega
  have e1:qa8 (a.dv::l.map AExpr.dv) n m=qa8 (l.map AExpr.dv) (n+qap a.dv (m-n)) m:=by conv=>lhs;unfold qa8;rw[if_pos hn]
  rw[e1]at hc⊢;have h1:=qme a.dv (m-n) (by omega)
  have h2:=qiu (l.map AExpr.dv) (n+qap a.dv (m-n)) m
  have e2:=h a (by simp) (m-n) (by omega) (by omega) (by omega)
  rw[List.foldl_cons,e2,wrI (by omega) (by omega)]
  exact qu9 g hm l (fun b hb=>h b (by simp[hb])) _ (by omega) hc
theorem qKs(T:Tab)(hT:HT T):∀(n:Nat) (x:AExpr),SizeOf.sizeOf x.dv<n→x.ok→∀m:Int,0≤m→m≤1000→qap x.dv m≤m→T.val 405 [x.dv]=some (.d (I (qap x.dv m)),false):=by
 intro n;induction n with
 |zero=>intro x h;exact absurd h (zzm _)
 |succ n ih =>
  intro x hn hx m h0 hm hc;obtain⟨l,h2,h3,h4⟩:=qiB hx;obtain⟨g,hg⟩:=qg9 (P:=fun (a:AExpr) (v:Int)=>T.val 405 [a.dv]=some (.d (I v),false)) (fun a ha=>qKr T hT _ a (Nat.lt_succ_self _) (h3 a ha))
  rw[qnK,h2]at hc⊢;rw[qyy T hT x l h2 h4 g hg,qu9 g hm l (fun a ha q q0 q1 hq=>by
   have e:=ih a (by have:=qiA h2 ha;omega) (h3 a ha) q q0 q1 hq
   rw[hg a ha]at e;injection e with e;injection e with e _;injection e with e;injection e) 1 (by omega) hc]
end
section
variable {R : Type} {H : Heap} {id : Nat} {k : K} {b : Nat} {q : PV → Heap → Option R}
theorem qtY{o off len:Nat}{k':K}:bo2 (qgc H id k b (.r o k' off len false) []) (.h q)=match H.obj o with
  |some (.sl k'' ro es)=>chk ((K.eq k k'&&K.eq k k''&&decide (off+len≤es.length)&&decide (len*b≤2^47))=true) (.h (chk (ro≤off+len) (.h (q (.r id k 0 len false) ((H.put o none).put id (some (.sl k (ro-off) ((es.drop off).take len))))))))
  | _=>none:=by
 simp only[qgc,qfv,qbo,qbO,if_true,chk,List.length_nil,Nat.add_zero,List.isEmpty_nil,Bool.or_true];cases H.obj o with
 |none=>rfl
 |some x =>
  cases x with
  |sl k'' ro es =>
   simp only[List.append_nil,zzg,if_false];split
   ·split<;>rfl
   ·rfl
  | _=>rfl
theorem qp8{o off len:Nat}{k':K}{t:Bool}{ys:List DV}(hy:ys≠[]):bo2 (qgc H id k b (.r o k' off len t) ys) (.h q)=match H.obj o with
  |some (.sl k'' ro es)=>chk ((K.eq k k'&&K.eq k k''&&decide (off+len≤es.length)&&decide ((len+ys.length)*b≤2^47))=true) (.h (brn t (.h (q (.r id k 0 (len+ys.length) false) (H.put id (some (.sl k 0 ((es.drop off).take len++ys)))),chk (ro≤off+len) (.h (q (.r id k 0 (len+ys.length) false) ((H.put o none).put id (some (.sl k (ro-off) ((es.drop off).take len++ys))))))))))
  | _=>none:=by
 cases ys with
 |nil=>exact absurd rfl hy
 |cons y ys=>exact qev
end
theorem sdK(v:DV):qf6 K0 v 0 K0=some v:=rfl
section
attribute [local simp ↓] qbJ qbT qbx qeG qbS qfk qbt qbw qce qeV qeW qcq qcr qbv qey qbz qe0 qeZ qe6 qfi qeY qfg qff qbD qe2 qbX qe3 qe5 qe4 qe7 qe1 qe9 qfb qfe qfd qfc qe8 qfa qfh qex qeX
attribute [local simp] qby qbe writeS touchS qaD qa4 chg qbm qbb qaY qbc PV.refs PV.refsL IOp.okD IOp.barr qb2 Nat.testBit
attribute [local simp] gc Fr.keep qaf qae qad PV.refs PV.refsL qaj gcH qai Obj.refs PV.ren PV.renL Obj.ren Heap.obj Fr.ren gh zzd
abbrev TW(l:List (List UInt8)):Prop:=∀s∈l,s.length≤maxLen
theorem qI3(es:List DV)(t:Bool)(j:Nat)(hj:j≤es.length)(H:Heap):slA H K0 (.d (.l K0 es t)) none (some (.d (I j))) none=some (.d (.l K0 (es.take j) (t&&j==es.length))):=by
 have h1:(0:Int)≤(j:Int)∧(j:Int)≤(es.length:Int):=⟨by omega,by omega⟩
 simp[slA,bnd,asI,K.eq,h1]
theorem qI4(es:List DV)(t:Bool)(j:Nat)(hj:j≤es.length)(H:Heap):slA H K0 (.d (.l K0 es t)) (some (.d (I j))) none none=some (.d (.l K0 (es.drop j) t)):=by
 have h1:(0:Int)≤(j:Int)∧(j:Int)≤(es.length:Int):=⟨by omega,by omega⟩
 simp[slA,bnd,asI,K.eq,h1]
def IsN(L0:List (List UInt8))(s:List UInt8)(r:PV×Bool):Prop:=∃(L:List (List UInt8)) (own:Bool),r=(.d (.l K0 (L.map DV.s) false),own)∧L.length≤L0.length+1∧TW L∧L≠[]∧∀y,y∈L↔y∈L0∨y=s
theorem qyO(T:Tab)(hS:HS T)(L:List (List UInt8))(t:Bool)(hL:L.length≤1000)(hw:TW L)(s:List UInt8)(hs:s.length≤maxLen):Ans (IsN L s) (T.val 953 [.l K0 (L.map DV.s) t,.s s]):=by
 rw[qab T (hS 953 F953 rfl) rfl];simp[F953,Fr.ofArgs];refine qjF (fun k:Nat=>⟨[(5,.d (I k)),(1,.d (.s s)),(0,.d (.l K0 (L.map DV.s) t))],[]⟩) (fun k=>k≤L.length) (fun k=>L.length-k) ?_ 0 (zzK _) (by simp)
 rintro B-k hk hx;have tail:∀(c:List (Nat×PV)→Option (PV×Bool)),True:=fun _=>trivial
 clear tail
 have s1:=qI3 (L.map DV.s) t k (by simpa using hk)
 have s2:=qI4 (L.map DV.s) t k (by simpa using hk)
 have hw':TW (L.take k++s::L.drop k):=by
  intro y hy;rcases zzB.1 hy with hy|hy
  ·exact hw y (List.mem_of_mem_take hy)
  ·rcases List.mem_cons.1 hy with rfl|hy
   ·exact hs
   ·exact hw y (List.mem_of_mem_drop hy)
 have hll:(L.take k++s::L.drop k).length≤L.length+1:=by
  rw[zzp,zzn,zzI,zzJ];omega
 have hmem:∀y,y∈L.take k++s::L.drop k↔y∈L∨y=s:=fun y=>by
  rw[zzB,List.mem_cons,←or_assoc,or_comm (b:=y=s),or_assoc,←zzB,List.take_append_drop,or_comm]
 have b1:k*16≤140737488355328:=by omega
 have b2:(k+1)*16≤140737488355328:=by omega
 have b3:(k+1+(L.length-k))*16≤140737488355328:=by omega
 have m1:min k L.length=k:=by omega
 have gk:(k:Int)≤L.length:=by omega
 have at2:List.take (k+1) (List.take k (L.map DV.s)++[DV.s s])=List.take k (L.map DV.s)++[DV.s s]:=zzv (by rw[zzp,zzI,zzo];simp;omega)
 have at1:List.take k (List.take k (L.map DV.s))=List.take k (L.map DV.s):=zzv (by rw[zzI];omega)
 have le1:k+1+(L.length-k)≤k+(L.length-k+1):=by omega
 have at3:List.take (k+1+(L.length-k)) (List.take k (L.map DV.s)++DV.s s::List.drop k (L.map DV.s))=List.take k (L.map DV.s)++DV.s s::List.drop k (L.map DV.s):=zzv (by simp only[zzp,zzI,zzn,zzJ,zzo];omega)
 have fin:(L.take k++s::L.drop k).map DV.s=List.take k (L.map DV.s)++DV.s s::List.drop k (L.map DV.s):=by simp
 by_cases hlt:k<L.length
 ·have h1:(k:Int)<L.length:=by omega
  have h3:IntKind.i64.wrap ((k:Int)+1)=(k:Int)+1:=wrI (by omega) (by omega)
  have hx':=hx (k+1) (by omega) (by omega)
  have hB:List.drop k (L.map DV.s)≠[]:=by
   intro c
   have:=congrArg List.length c
   rw[zzJ,zzo,List.length_nil]at this;omega
  simp[h1,hlt,↓qmb];refine qtX (fun h => ?_) (fun h => ?_)
  ·simp[h3];exact hx' _ _ (by simp)
  ·simp[h1,hlt];refine qtX (fun h => ?_) (fun h => ?_)
   ·cases t
    ·simp;exact qbP ⟨L,_,rfl,by omega,hw,(fun c=>by rw[c]at hlt;simp at hlt),fun y=>⟨.inl,fun q=>q.elim id fun e=>by rw[e,←eq_of_beq h];exact zzs hlt⟩⟩
    ·simp;exact qbP ⟨L,_,rfl,by omega,hw,(fun c=>by rw[c]at hlt;simp at hlt),fun y=>⟨.inl,fun q=>q.elim id fun e=>by rw[e,←eq_of_beq h];exact zzs hlt⟩⟩
   ·simp[s1,s2,↓qp8,hB,b1,b2,b3,m1,at1,at2,le1];exact qbP ⟨_,_,by rw[at3,fin],hll,hw',by simp,hmem⟩
 ·have hk2:k=L.length:=by omega
  have h1:¬((k:Int)<L.length):=by omega
  have hB:List.drop k (L.map DV.s)=[]:=zzF (by simp;omega)
  have b0:L.length-k=0:=by omega
  simp[h1,s1,s2,↓qtY,↓qp8,hB,b1,b2,m1,at1,at2];exact qbP ⟨_,_,by rw[fin,hB],hll,hw',by simp,hmem⟩
theorem qz0{e:DV}{es:List DV}{n m:Int}(h:qa8 (e::es) n m≤m):n≤m∧1≤qap e (m-n)∧qap e (m-n)≤m-n∧qa8 (e::es) n m=qa8 es (n+qap e (m-n)) m:=by
 have h0:=qiu (e::es) n m
 have hn:n≤m:=by omega
 have e1:qa8 (e::es) n m=qa8 es (n+qap e (m-n)) m:=by conv=>lhs;unfold qa8;rw[if_pos hn]
 have h1:=(qme e (m-n) (by omega)).1
 have h2:=qiu es (n+qap e (m-n)) m
 exact⟨hn,h1,by omega,e1⟩
def qlQ(nm:List UInt8→Bool)(m:Int)(b:Bool)(r:PV×Bool):Prop:=∃(L:List (List UInt8)) (own:Bool),r=(.d (.l K0 (L.map DV.s) false),own)∧(L.length:Int)≤m∧TW L∧(b=true↔∀y∈L,nm y=true)
def fN:Bool→List (List UInt8)→Fr
 |true,_=>[(3,.r 0 K0 0 1 false),(1,.p 1 0 0)]
 |false,L=>[(3,.d (.l K0 (L.map DV.s) L.isEmpty)),(1,.p 0 0 0)]
def hN(x:AExpr):Bool→List (List UInt8)→Heap
 |true,L=>[some (.sl K0 0 (L.map DV.s)),some (.box (K1 4) (.d x.dv))]
 |false,_=>[some (.box (K1 4) (.d x.dv))]
theorem qwv{L L' M N:List (List UInt8)}{j:Nat}(hj:j<N.length)(h:∀y,y∈L'↔y∈L∨y∈N.take j)(k:∀y,y∈M↔y∈L'∨y=N[j]):∀y,y∈M↔y∈L∨y∈N.take (j+1):=fun y=>by
 rw[k,h,zzw hj,zzB,zzH,or_assoc]
theorem qwl(T:Tab)(hS:HS T){Q:PV×Bool→Prop}(x:AExpr)(i:Nat)(N:List (List UInt8))(hN0:TW N)(sh:Bool)(L:List (List UInt8))(hsh:sh=true→L.length=1)(hL:TW L)(hl:L.length+N.length≤500){k:KC (PV×Bool)}{fr:Fr}{H:Heap}
  (hk:∀sh' L',(sh'=true→L'.length=1)→TW L'→L'.length≤L.length+N.length→(∀y,y∈L'↔y∈L∨y∈N)→Ans Q (k (.exit 2) ((31,.d (.b false))::(6,.d (I N.length))::(5,.d (.l K0 (N.map DV.s) false))::(4,.d (I i))::fN sh' L') (hN x sh' L')))
  (h0:gc [1,3,4,5,6] 0 ⟨fr,H⟩=⟨(6,.d (I 0))::(5,.d (.l K0 (N.map DV.s) false))::(4,.d (I i))::fN sh L,hN x sh L⟩) :
  Ans Q (kC T.env 0 fr H (.h (.loop [1,3,4,5,6] ql2,k))):=by
 refine qjF (fun q:Nat×Bool×List (List UInt8)=>⟨(6,.d (I q.1))::(5,.d (.l K0 (N.map DV.s) false))::(4,.d (I i))::fN q.2.1 q.2.2,hN x q.2.1 q.2.2⟩) (fun q=>q.1≤N.length∧(q.2.1=true→q.2.2.length=1)∧TW q.2.2∧q.2.2.length≤L.length+q.1∧∀y,y∈q.2.2↔y∈L∨y∈N.take q.1) (fun q=>N.length-q.1) ?_ (0,sh,L) ⟨zzK _,hsh,hL,by simp,by simp⟩ h0
 rintro B-⟨j,sh',L'⟩ ⟨hj,hs',hw',hl',he'⟩ hx;simp only at hj hs' hw' hl' he'⊢;by_cases hlt:j<N.length
 ·clear hk
  have h1:(j:Int)<N.length:=by omega
  have h3:IntKind.i64.wrap ((j:Int)+1)=(j:Int)+1:=wrI (by omega) (by omega)
  have hs:=hN0 N[j] (zzs hlt)
  cases sh' with
  |true =>
   obtain⟨s0,rfl⟩:∃s0,L'=[s0]:=by
    have:=hs' rfl
    match L',this with
    | [s0],_=>exact⟨s0,rfl⟩
   obtain⟨r,e953,M,own,rfl,hm,hmw,hm0,hme0⟩:=qyO T hS [s0] false (by simp) hw' N[j] hs
   have hme:M.isEmpty=false:=by cases M<;>first|rfl|exact absurd rfl hm0
   have hx':=hx (j+1,false,M) ⟨by simp only;omega,(fun c=>by cases c),hmw,by simp only at hm⊢;simp only[zzn,List.length_nil]at hm hl';omega,qwv hlt he' hme0⟩ (by simp only;omega)
   clear hx
   simp only[fN,hN,hme]at hx'⊢;simp only[zzu,List.map_nil]at e953;simp[h1,hlt,h3,e953,qaK,pur,qa9,PV.scal,PV.scal1,DV.scal,DV.scal1];exact hx' _ _ (by simp[frz,qgv,Heap.put])
  |false =>
   obtain⟨r,e953,M,own,rfl,hm,hmw,hm0,hme0⟩:=qyO T hS L' L'.isEmpty (by omega) hw' N[j] hs
   have hme:M.isEmpty=false:=by cases M<;>first|rfl|exact absurd rfl hm0
   have hx':=hx (j+1,false,M) ⟨by simp only;omega,(fun c=>by cases c),hmw,by simp only;omega,qwv hlt he' hme0⟩ (by simp only;omega)
   clear hx
   simp only[fN,hN,hme]at hx'⊢;simp[h1,hlt,h3,e953,qaK,pur,qa9,PV.scal,PV.scal1,DV.scal,DV.scal1];exact hx' _ _ (by simp)
 ·have hj2:j=N.length:=by omega
  subst hj2;rw[List.take_length]at he';have hkj:=hk sh' L' hs' hw' (by omega) he'
  clear hk
  have h1:¬((N.length:Int)<N.length):=by omega
  cases sh' with
  |true =>
   simp only[fN,hN]at hkj⊢;simp[h1];exact hkj
  |false =>
   simp only[fN,hN]at hkj⊢;simp[h1];exact hkj
theorem qKv(T:Tab)(hT:HT T)(nm:List UInt8→Bool)(hN:∀s:List UInt8,s.length≤maxLen→T.val 415 [.s s]=some (.d (.b (nm s)),false))(x:AExpr)(hx:x.ok):T.val 409 [x.dv]=some (.d (.b (if x.Op=4 then nm x.S else true)),false):=by
 have e:=hN x.S hx.2.2.1
 rw[qab T (hT 409 qjY rfl) rfl];by_cases h:x.Op=4
 ·rw[if_pos h];simp[qjY,Fr.ofArgs,e,h,bne]
 ·have g:=qac h
  rw[if_neg h];simp[qjY,Fr.ofArgs,g,bne]
theorem qLu(T:Tab)(hS:HS T)(hT:HT T)(nm:List UInt8→Bool)(hN0:∀s:List UInt8,s.length≤maxLen→T.val 415 [.s s]=some (.d (.b (nm s)),false)):∀(n:Nat) (x:AExpr),SizeOf.sizeOf x.dv<n→x.ok→∃b:Bool,(∀H0,Cl H0→T.ref 407 [.d x.dv,.f 409 []] H0=some (.d (.b b),H0))∧∀m:Int,0≤m→m≤200→qap x.dv m≤m→Ans (qlQ nm (qap x.dv m) b) (T.val 922 [x.dv]):=by
 intro n;induction n with
 |zero=>intro x h;exact absurd h (zzm _)
 |succ n ih =>
  intro x hn hx;obtain⟨l,h2,h3,h4⟩:=qiB hx;obtain⟨g,hg⟩:=qg9 (P:=fun (a:AExpr) (b:Bool)=>(∀H0,Cl H0→T.ref 407 [.d a.dv,.f 409 []] H0=some (.d (.b b),H0))∧∀m:Int,0≤m→m≤200→qap a.dv m≤m→Ans (qlQ nm (qap a.dv m) b) (T.val 922 [a.dv])) (fun a ha=>ih a (by have:=qiA h2 ha;omega) (h3 a ha))
  have e409:=qKv T hT nm hN0 x hx
  generalize hb0:(if x.Op=4 then nm x.S else true)=b0 at e409
  refine⟨_,fun H0 hH=>qxy T hT 409 x l h2 h4 b0 e409 g (fun a ha=>(hg a ha).1) H0 hH,?_⟩
  intro m hm0 hm1 hc;generalize hb:(b0 && !(l.any fun a => !(g a)))=b
  have hbe:b=true↔b0=true∧∀a∈l,g a=true:=by
   rw[←hb];simp only[zzf,Bool.not_eq_true',List.any_eq_false,Bool.not_eq_true'];constructor
   ·rintro⟨q1,q2⟩;exact⟨q1,fun a ha=>by simpa using q2 a ha⟩
   ·rintro⟨q1,q2⟩;exact⟨q1,fun a ha=>by simp[q2 a ha]⟩
  have hcx:=qnK x m
  rw[h2]at hcx;have key:∀(k:KC (PV×Bool)) (fr:Fr) (H:Heap) (sh:Bool) (L:List (List UInt8)),(sh=true→L.length=1)→TW L→L.length≤1→(b0=true↔∀y∈L,nm y=true) →
    (∀sh' L',(sh'=true→L'.length=1)→TW L'→(L'.length:Int)≤qap x.dv m→(b=true↔∀y∈L',nm y=true)→Ans (qlQ nm (qap x.dv m) b) (k (.exit 0) ((19,.d (.b false))::(4,.d (I l.length))::fN sh' L') (hN x sh' L'))) →
    gc [1,3,4] 0 ⟨fr,H⟩=⟨(4,.d (I 0))::fN sh L,hN x sh L⟩→Ans (qlQ nm (qap x.dv m) b) (kC T.env 0 fr H (.h (.loop [1,3,4] qkk,k))):=by
   intro k fr H sh L hsh hL hl hbL hk h0;refine qjF (fun q:Nat×Bool×List (List UInt8)=>⟨(4,.d (I q.1))::fN q.2.1 q.2.2,hN x q.2.1 q.2.2⟩) (fun q=>q.1≤l.length∧(q.2.1=true→q.2.2.length=1)∧TW q.2.2∧((∀y∈q.2.2,nm y=true)↔b0=true∧∀a∈l.take q.1,g a=true)∧∃nn:Int,(q.2.2.length:Int)≤nn∧1≤nn∧qa8 ((l.drop q.1).map AExpr.dv) nn m=qap x.dv m) (fun q=>l.length-q.1) ?_ (0,sh,L) ⟨zzK _,hsh,hL,by simp[hbL],1,by simp only;omega,by omega,by simp only[List.drop_zero];exact hcx.symm⟩ h0
   rintro B-⟨i,sh',L'⟩ ⟨hi,hs',hw',hq',nn,hn1,hn2,hn3⟩ hx1;simp only at hi hs' hw' hq' hn1 hn3⊢;by_cases hlt:i<l.length
   ·have h1:(i:Int)<l.length:=by omega
    have h5:IntKind.i64.wrap ((i:Int)+1)=(i:Int)+1:=wrI (by omega) (by omega)
    rw[zzz hlt,zzu]at hn3;have hc2:=hc
    rw[←hn3]at hc2;obtain⟨p1,p2,p3,p4⟩:=qz0 hc2;obtain⟨r,e922,N,own,rfl,hNl,hNw,hNq⟩:=(hg l[i] (zzs hlt)).2 (m-nn) (by omega) (by omega) p3
    have hsm:L'.length+N.length≤500:=by omega
    have fin:∀sh2 L2,(sh2=true→L2.length=1)→TW L2→L2.length≤L'.length+N.length→(∀y,y∈L2↔y∈L'∨y∈N)→∀fr H,gc [1,3,4] 0 ⟨fr,H⟩=⟨(4,.d (I ((i:Int)+1)))::fN sh2 L2,hN x sh2 L2⟩→Ans (qlQ nm (qap x.dv m) b) (kC T.env 0 fr H (.h (.loop [1,3,4] B,k))):=by
     intro sh2 L2 q1 q2 q3 qe fr H q4;exact hx1 (i+1,sh2,L2) ⟨by simp only;omega,q1,q2,by
      simp only;rw[zzw hlt];constructor
      ·intro q;have q5:=hq'.1 fun y hy=>q y ((qe y).2 (.inl hy))
       have q6:=hNq.2 fun y hy=>q y ((qe y).2 (.inr hy))
       refine⟨q5.1,fun a ha => ?_⟩
       rcases zzB.1 ha with ha|ha
       ·exact q5.2 a ha
       ·rw[zzH.1 ha];exact q6
      ·rintro⟨q5,q6⟩ y hy;rcases (qe y).1 hy with hy|hy
       ·exact hq'.2 ⟨q5,fun a ha=>q6 a (List.mem_append_left _ ha)⟩ y hy
       ·exact hNq.1 (q6 _ (List.mem_append_right _ (zzH.2 rfl))) y hy,nn+qap (AExpr.dv l[i]) (m-nn),by simp only;omega,by omega,by simp only;rw[←p4];exact hn3⟩ (by simp only;omega) fr H (by rw[q4];rfl)
    clear hx1
    cases sh' with
    |true =>
     simp only[fN,hN];simp[h1,hlt,h2,e922,qaK,PV.scal,PV.scal1,DV.scal,DV.scal1];refine qwl T hS x i N hNw true L' hs' hw' hsm (fun sh2 L2 q1 q2 q3 qe => ?_) (by simp[fN,hN])
     have f2:=fin sh2 L2 q1 q2 q3 qe
     cases sh2 with
     |true =>
      simp only[fN,hN]at f2⊢;simp[h5];exact f2 _ _ (by simp)
     |false =>
      simp only[fN,hN]at f2⊢;simp[h5];exact f2 _ _ (by simp)
    |false =>
     simp only[fN,hN];simp[h1,hlt,h2,e922,qaK,PV.scal,PV.scal1,DV.scal,DV.scal1];refine qwl T hS x i N hNw false L' hs' hw' hsm (fun sh2 L2 q1 q2 q3 qe => ?_) (by simp[fN,hN])
     have f2:=fin sh2 L2 q1 q2 q3 qe
     cases sh2 with
     |true =>
      simp only[fN,hN]at f2⊢;simp[h5];exact f2 _ _ (by simp)
     |false =>
      simp only[fN,hN]at f2⊢;simp[h5];exact f2 _ _ (by simp)
   ·have hi2:i=l.length:=by omega
    subst hi2;have h1:¬((l.length:Int)<l.length):=by omega
    rw[List.drop_length,List.map_nil]at hn3;rw[List.take_length]at hq';have hf:(L'.length:Int)≤qap x.dv m:=by rw[←hn3];unfold qa8;exact hn1
    have hkk:=hk sh' L' hs' hw' hf (hbe.trans hq'.symm)
    cases sh' with
    |true =>
     simp only[fN,hN]at hkk⊢;simp[h1,h2];exact hkk
    |false =>
     simp only[fN,hN]at hkk⊢;simp[h1,h2];exact hkk
  rw[qab T (hS 922 F922 rfl) rfl];have hS0:x.S.length≤maxLen:=hx.2.2.1
  by_cases ho:x.Op=4
  ·rw[if_pos ho]at hb0;simp[F922,Fr.ofArgs,ho];refine key _ _ _ true [x.S] (fun _=>rfl) (fun s hs=>by rw[zzH.1 hs];exact hS0) (zzt _) (by rw[←hb0];simp) (fun sh' L' q1 q2 q3 q4 => ?_) (by simp[fN,hN])
   cases sh' with
   |true =>
    obtain⟨s0,rfl⟩:∃s0,L'=[s0]:=by
     have:=q1 rfl
     match L',this with
     | [s0],_=>exact⟨s0,rfl⟩
    simp only[fN,hN];simp;exact qbP ⟨[s0],_,rfl,q3,q2,q4⟩
   |false =>
    cases L' with
    |nil =>
     simp only[fN,hN];simp;exact qbP ⟨[],_,rfl,q3,q2,q4⟩
    |cons s0 L' =>
     simp only[fN,hN,List.isEmpty_cons];simp;exact qbP ⟨s0::L',_,rfl,q3,q2,q4⟩
  ·have go:=qac ho
   rw[if_neg ho]at hb0;simp[F922,Fr.ofArgs,go];refine key _ _ _ false [] (fun c=>by cases c) (fun s hs=>by cases hs) (zzK _) (by rw[←hb0];simp) (fun sh' L' q1 q2 q3 q4 => ?_) (by simp[fN,hN])
   cases sh' with
   |true =>
    obtain⟨s0,rfl⟩:∃s0,L'=[s0]:=by
     have:=q1 rfl
     match L',this with
     | [s0],_=>exact⟨s0,rfl⟩
    simp only[fN,hN];simp;exact qbP ⟨[s0],_,rfl,q3,q2,q4⟩
   |false =>
    cases L' with
    |nil =>
     simp only[fN,hN];simp;exact qbP ⟨[],_,rfl,q3,q2,q4⟩
    |cons s0 L' =>
     simp only[fN,hN,List.isEmpty_cons];simp;exact qbP ⟨s0::L',_,rfl,q3,q2,q4⟩
theorem qLG(T:Tab)(hS:HS T)(hW:∃t o:Bool,T.val 968 []=some (.d (.l K0 (wordsL.map DV.s) t),o))(s:List UInt8):T.val 954 [.s s]=some (.d (.b (decide (s∈wordsL))),false):=by
 obtain⟨t,o,e⟩:=hW;have hn:wordsL.length≤1000:=by decide
 generalize wordsL=ws at *
 rw[qab T (hS 954 F954 rfl) rfl];simp[F954,Fr.ofArgs,e];refine qbB (fun i:Nat=>⟨[(4,.d (I i)),(3,.d (.l K0 (ws.map DV.s) t)),(0,.d (.s s))],[]⟩) (fun i=>i≤ws.length∧¬s∈ws.take i) (fun i=>ws.length-i) ?_ 0 ⟨zzK _,by simp⟩ (by simp)
 rintro B-i ⟨hi,hni⟩ hx;by_cases hlt:i<ws.length
 ·have h1:(i:Int)<ws.length:=by omega
  have h3:=wr1 (i:=i) (by omega)
  by_cases hs:ws[i]=s
  ·have hm:s∈ws:=by rw[←hs];exact zzs hlt
   simp[h1,hlt,hs,hm]
  ·have g:=qg0 hs
   have hx':=hx (i+1) ⟨by omega,by
    rw[zzw hlt,zzB,zzH];exact fun h=>h.elim hni fun h=>hs h.symm⟩ (by omega)
   simp[h1,hlt,h3,g];exact hx' _ _ (by simp)
 ·have:i=ws.length:=by omega
  subst this;rw[List.take_length]at hni;have h1:¬((ws.length:Int)<ws.length):=by omega
  simp[hni]
theorem qx3{α:Type}{p:α→Bool}:∀{s:List α},(∀v∈s,p v=true)→s.takeWhile p=s
 | [],_=>rfl
 |c::r,h=>by rw[List.takeWhile_cons,if_pos (h c (by simp)),qx3 fun v hv=>h v (by simp[hv])]
theorem qCW(T:Tab)(s:List UInt8)(hs:s.length≤100){k:KC (PV×Bool)}{r:Option (PV×Bool)}{fr:Fr}{H:Heap}
  (he:s.takeWhile (fun c=>qbL (cN c))=s→k (.exit 0) [(25,.d (.b false)),(3,.d (I s.length)),(0,.d (.s s))] []=r)
  (hr:s.takeWhile (fun c=>qbL (cN c))≠s→∀fr J,fr.get 2 = .d (.b false)→qak fr=[]→k .ret fr J=r)
  (h0:gc [0,3] 0 ⟨fr,H⟩=⟨[(3,.d (I 0)),(0,.d (.s s))],[]⟩) :
  kC T.env 0 fr H (.h (.loop [0,3] qik,k))=r:=by
 refine qbB (fun i:Nat=>⟨[(3,.d (I i)),(0,.d (.s s))],[]⟩) (fun i=>i≤s.length∧∀v∈s.take i,qbL (cN v)=true) (fun i=>s.length-i) ?_ 0 ⟨zzK _,by simp⟩ h0
 rintro B-i ⟨hi,ha⟩ hx;by_cases hlt:i<s.length
 ·have h1:(i:Int)<s.length:=by omega
  have h3:=wr1 (i:=i) (by omega)
  have go:qbL (cN s[i])=true→∀fr H,gc [0,3] 0 ⟨fr,H⟩=⟨[(3,.d (I ((i+1:Nat):Int))),(0,.d (.s s))],[]⟩→kC T.env 0 fr H (.h (.loop [0,3] B,k))=r:=fun hb=>hx (i+1) ⟨by omega,by
   rw[zzw hlt];intro v hv;rcases zzB.1 hv with hv|hv
   ·exact ha v hv
   ·rw[zzH.1 hv];exact hb⟩ (by omega)
  have no:qbL (cN s[i])=false→∀fr J,fr.get 2 = .d (.b false)→qak fr=[]→k .ret fr J=r:=fun hb=>hr fun h=>by
   have hm:s[i]∈s.takeWhile (fun c=>qbL (cN c)):=by rw[h];exact zzs hlt
   have:=qoY (p:=fun c=>qbL (cN c)) hm
   rw[hb]at this;cases this
  clear hx hr
  unfold qbL qfm qbZ cN at go no;generalize hc:((s[i].toNat:Nat):Int)=x at *
  by_cases a1:x<97
  ·by_cases a3:x<48
   ·have n95:¬x=95:=by omega
    have g95:=qac n95
    have no:=no (by simp;omega)
    simp[h1,hlt,↓qbf,↓qbA,hc,a1,a3,g95,bne];exact no _ _ (by simp[Fr.get]) (by simp[qak,gh])
   ·by_cases a4:57<x
    ·by_cases a5:x=95
     ·have go:=go (by simp;omega)
      simp[h1,hlt,h3,↓qbf,↓qbA,hc,a5,bne];exact go _ _ (by simp)
     ·have g95:=qac a5
      have no:=no (by simp;omega)
      simp[h1,hlt,↓qbf,↓qbA,hc,a1,a3,a4,g95,bne];exact no _ _ (by simp[Fr.get]) (by simp[qak,gh])
    ·have go:=go (by simp;omega)
     simp[h1,hlt,h3,↓qbf,↓qbA,hc,a1,a3,a4];exact go _ _ (by simp)
  ·by_cases a2:122<x
   ·have a3:¬x<48:=by omega
    have a4:57<x:=by omega
    have n95:¬x=95:=by omega
    have g95:=qac n95
    have no:=no (by simp;omega)
    simp[h1,hlt,↓qbf,↓qbA,hc,a1,a2,a3,a4,g95,bne];exact no _ _ (by simp[Fr.get]) (by simp[qak,gh])
   ·have go:=go (by simp;omega)
    simp[h1,hlt,h3,↓qbf,↓qbA,hc,a1,a2];exact go _ _ (by simp)
 ·have:i=s.length:=by omega
  subst this;rw[List.take_length]at ha;have he':=he (qx3 ha)
  have h1:¬((s.length:Int)<s.length):=by omega
  simp;exact he'
def qmJ:List UInt8→Bool
 | []=>false
 |c::r=>qfm (cN c)&&(decide ((c::r).length≤16)&&decide ((c::r).takeWhile (fun c=>qbL (cN c))=c::r))
theorem qKT(T:Tab)(hS:HS T)(s:List UInt8):T.val 512 [.s s]=some (.d (.b (qmJ s)),false):=by
 rw[qab T (hS 512 F512 rfl) rfl];cases s with
 |nil=>simp[F512,Fr.ofArgs,qmJ]
 |cons c r =>
  rw[show qmJ (c::r)=(qfm (cN c)&&(decide ((c::r).length≤16)&&decide ((c::r).takeWhile (fun c=>qbL (cN c))=c::r)))from rfl]
  have l1:¬((r.length:Int)+1<1):=by omega
  by_cases l2:16<(r.length:Int)+1
  ·have d:decide ((c::r).length≤16)=false:=decide_eq_false (by simp only[zzn];omega)
   rw[d,Bool.false_and,Bool.and_false];simp[F512,Fr.ofArgs,l1,l2]
  ·have d:decide ((c::r).length≤16)=true:=decide_eq_true (by simp only[zzn];omega)
   have lp:=fun k r' fr H => @qCW T (c::r) (by simp only[zzn];omega) k r' fr H
   rw[d,Bool.true_and];unfold qfm;have hc:((c.toNat:Nat):Int)=cN c:=rfl
   generalize hbb:decide ((c::r).takeWhile (fun c=>qbL (cN c))=c::r)=bb
   by_cases a1:cN c<97
   ·have d1:decide (97≤cN c)=false:=decide_eq_false (by omega)
    rw[d1,Bool.false_and,Bool.false_and];simp[F512,Fr.ofArgs,l1,l2,↓qbf,↓qbA,hc,a1]
   ·have d1:decide (97≤cN c)=true:=decide_eq_true (by omega)
    rw[d1,Bool.true_and];by_cases a2:122<cN c
    ·have d2:decide (cN c≤122)=false:=decide_eq_false (by omega)
     rw[d2,Bool.false_and];simp[F512,Fr.ofArgs,l1,l2,↓qbf,↓qbA,hc,a1,a2]
    ·have d2:decide (cN c≤122)=true:=decide_eq_true (by omega)
     rw[d2,Bool.true_and];simp[F512,Fr.ofArgs,l1,l2,↓qbf,↓qbA,hc,a1,a2];refine lp _ _ _ _ (fun h => ?_) (fun h fr J h2 hg => ?_) (by simp)
     ·have hb:bb=true:=by rw[←hbb];exact decide_eq_true h
      subst hb;simp
     ·have hb:bb=false:=by rw[←hbb];exact decide_eq_false h
      subst hb;simp[h2,hg]
theorem qLv(T:Tab)(hS:HS T)(hW:∃t o:Bool,T.val 968 []=some (.d (.l K0 (wordsL.map DV.s) t),o))(s:List UInt8):T.val 923 [.s s]=some (.d (.b (qb9 s)),false):=by
 have e1:=qKT T hS s
 have e2:=qLG T hS hW s
 have q:qb9 s=(qmJ s && !decide (s∈wordsL)):=by
  cases s with
  |nil=>rfl
  |cons c r =>
   show (qfm (cN c)&&(decide ((c::r).takeWhile (fun c=>qbL (cN c))=c::r)&&(!decide (c::r∈wordsL)&&decide ((c::r).length≤16))))=((qfm (cN c)&&(decide ((c::r).length≤16)&&decide ((c::r).takeWhile (fun c=>qbL (cN c))=c::r))) && !decide (c::r∈wordsL))
   cases qfm (cN c)<;>cases decide ((c::r).takeWhile (fun c=>qbL (cN c))=c::r)<;>cases decide (c::r∈wordsL)<;>cases decide ((c::r).length≤16)<;>rfl
 rw[q];generalize qmJ s=a at *
 generalize decide (s∈wordsL)=b at *
 rw[qab T (hS 923 qj8 rfl) rfl];cases a with
 |true=>simp[qj8,Fr.ofArgs,e1,e2]
 |false=>simp[qj8,Fr.ofArgs,e1]
theorem qLr(T:Tab)(hT:HU T)(x:AExpr)(hx:x.ok)(m:Int)(h0:0≤m)(h1:m≤1000):T.val 919 [x.dv,I m]=some (.d (.b (decide (m<qap x.dv m))),false):=by
 rw[qab T (hT 919 qid rfl) rfl];have e:=qtu T hT _ x (Nat.lt_succ_self _) hx m h0 h1
 simp[qid,Fr.ofArgs,e]
structure HNx (T:Tab):Prop where
 hT:HT T
 hS:HS T
 hU:HU T
 hC:HC T
 hW:HWd T
 wr:∃t o:Bool,T.val 968 []=some (.d (.l K0 (wordsL.map DV.s) t),o)
theorem qDa(T:Tab)(L:List (List UInt8))(nm:List UInt8→Bool)(hn:∀s,T.val 923 [.s s]=some (.d (.b (nm s)),false))(hL:L.length≤1000){k:KC (PV×Bool)}{r:Option (PV×Bool)}{fr:Fr}{H:Heap}
  (he:(∀y∈L,nm y=true)→k (.exit 0) [(20,.d (.b false)),(4,.d (I L.length)),(3,.d (.l K0 (L.map DV.s) false))] []=r)
  (hr:¬(∀y∈L,nm y=true)→∀fr J,fr.get 2 = .d (I 4)→qak fr=[]→k .ret fr J=r)
  (h0:gc [3,4] 0 ⟨fr,H⟩=⟨[(4,.d (I 0)),(3,.d (.l K0 (L.map DV.s) false))],[]⟩) :
  kC T.env 0 fr H (.h (.loop [3,4] qnq,k))=r:=by
 refine qbB (fun i:Nat=>⟨[(4,.d (I i)),(3,.d (.l K0 (L.map DV.s) false))],[]⟩) (fun i=>i≤L.length∧∀v∈L.take i,nm v=true) (fun i=>L.length-i) ?_ 0 ⟨zzK _,by simp⟩ h0
 rintro B-i ⟨hi,ha⟩ hx;by_cases hlt:i<L.length
 ·have h1:(i:Int)<L.length:=by omega
  have h3:=wr1 (i:=i) (by omega)
  have e:=hn L[i]
  cases hk:nm L[i]with
  |true =>
   rw[hk]at e;have hx':=hx (i+1) ⟨by omega,by
    rw[zzw hlt];intro v hv;rcases zzB.1 hv with hv|hv
    ·exact ha v hv
    ·rw[zzH.1 hv];exact hk⟩ (by omega)
   simp[h1,hlt,h3,e];exact hx' _ _ (by simp)
  |false =>
   rw[hk]at e;have hr':=hr fun h=>by have:=h _ (zzs hlt);rw[hk]at this;cases this
   simp[h1,hlt,e];exact hr' _ _ (by simp[Fr.get]) (by simp[qak,gh])
 ·have:i=L.length:=by omega
  subst this;rw[List.take_length]at ha;have he':=he ha
  have h1:¬((L.length:Int)<L.length):=by omega
  simp;exact he'
theorem qLd(T:Tab)(hN:HNx T)(x:AExpr)(hx:x.ok)(hc:qap x.dv 100≤100):∃n:Int,T.val 399 [x.dv]=some (.d (I n),false)∧T.val 859 [x.dv]=some (.d (I n),false)∧(n=0→T.val 921 [x.dv]=some (.d (.b true),false)):=by
 obtain⟨hT,hS,hU,hC,hW,wr⟩:=hN;have m1:=qzZ _ x (Nat.lt_succ_self _) hx 64 100 (by decide) (by decide)
 have e405:=qKs T hT _ x (Nat.lt_succ_self _) hx 100 (by decide) (by decide) hc
 have e919:=qLr T hU x hx 64 (by decide) (by decide)
 obtain⟨v,e406,e920⟩:=qLs T hS hT _ x (Nat.lt_succ_self _) hx;obtain⟨b,e921,q408,-⟩:=qyL T hS hT _ x (Nat.lt_succ_self _) hx;obtain⟨c,q409,a922⟩:=qLu T hS hT qb9 (fun s hs=>qyz T hT hC hW s hs) _ x (Nat.lt_succ_self _) hx
 have q408:=q408 [some (.box (K1 4) (.d x.dv))] (by intro r hr;simp[qad,qai,Obj.refs,PV.refs]at hr)
 have q409:=q409 [some (.box (K1 4) (.d x.dv))] (by intro r hr;simp[qad,qai,Obj.refs,PV.refs]at hr)
 by_cases hg:(64:Int)<qap x.dv 64
 ·have hg2:=m1.2 hg
  refine⟨5,?_,?_,fun h=>absurd h (by decide)⟩
  ·rw[qab T (hT 399 qf9 rfl) rfl];simp[qf9,Fr.ofArgs,e405,hg2]
  ·rw[qab T (hS 859 F859 rfl) rfl];simp[F859,Fr.ofArgs,e919,hg]
 have hq:=m1.1 (by omega)
 have hg2:¬(64:Int)<qap x.dv 100:=by omega
 by_cases h8:8<v
 ·refine⟨5,?_,?_,fun h=>absurd h (by decide)⟩
  ·rw[qab T (hT 399 qf9 rfl) rfl];simp[qf9,Fr.ofArgs,e405,hg2,e406,h8]
  ·rw[qab T (hS 859 F859 rfl) rfl];simp[F859,Fr.ofArgs,e919,hg,e920,h8]
 cases b with
 |false =>
  refine⟨1,?_,?_,fun h=>absurd h (by decide)⟩
  ·rw[qab T (hT 399 qf9 rfl) rfl];simp[qf9,Fr.ofArgs,e405,hg2,e406,h8,q408]
  ·rw[qab T (hS 859 F859 rfl) rfl];simp[F859,Fr.ofArgs,e919,hg,e920,h8,e921]
 |true =>
  obtain⟨r,e922,L,own,rfl,hL,hw,hcL⟩:=a922 64 (by decide) (by decide) (by omega)
  have lp:=fun k r fr H => @qDa T L qb9 (fun s=>qLv T hS wr s) (by omega) k r fr H
  cases c with
  |true =>
   refine⟨0,?_,?_,fun _=>e921⟩
   ·rw[qab T (hT 399 qf9 rfl) rfl];simp[qf9,Fr.ofArgs,e405,hg2,e406,h8,q408,q409]
   ·rw[qab T (hS 859 F859 rfl) rfl];simp[F859,Fr.ofArgs,e919,hg,e920,h8,e921,e922];refine lp _ _ _ _ (fun h => ?_) (fun h fr J h2 hg => ?_) (by simp)
    ·simp
    ·exact absurd (hcL.1 rfl) h
  |false =>
   refine⟨4,?_,?_,fun h=>absurd h (by decide)⟩
   ·rw[qab T (hT 399 qf9 rfl) rfl];simp[qf9,Fr.ofArgs,e405,hg2,e406,h8,q408,q409]
   ·rw[qab T (hS 859 F859 rfl) rfl];simp[F859,Fr.ofArgs,e919,hg,e920,h8,e921,e922];refine lp _ _ _ _ (fun h => ?_) (fun h fr J h2 hg => ?_) (by simp)
    ·exact absurd (hcL.2 h) (by decide)
    ·simp[h2,hg]
theorem qDb(T:Tab)(hS:HS T)(x:AExpr)(vs:List AVar)(t:Bool)(hn:vs.length≤1000){k:KC (PV×Bool)}{r:Option (PV×Bool)}{fr:Fr}{H:Heap}
  (he:qbH x.S vs=(0,4)→k (.exit 1) [(26,.d (.b false)),(6,.d (I vs.length)),(2,.p 0 0 0),(1,.d (.l (K1 2) (vs.map AVar.dv) t))] [some (.box (K1 4) (.d x.dv))]=r)
  (hr:∀fr J,fr.get 4 = .d (I (qbH x.S vs).1)→fr.get 5 = .d (I (qbH x.S vs).2)→qak fr=[]→k .ret fr J=r)
  (h0:gc [1,2,6] 0 ⟨fr,H⟩=⟨[(6,.d (I 0)),(2,.p 0 0 0),(1,.d (.l (K1 2) (vs.map AVar.dv) t))],[some (.box (K1 4) (.d x.dv))]⟩) :
  kC T.env 0 fr H (.h (.loop [1,2,6] ql1,k))=r:=by
 refine qbB (fun i:Nat=>⟨[(6,.d (I i)),(2,.p 0 0 0),(1,.d (.l (K1 2) (vs.map AVar.dv) t))],[some (.box (K1 4) (.d x.dv))]⟩) (fun i=>i≤vs.length∧∀v∈vs.take i,v.Name≠x.S) (fun i=>vs.length-i) ?_ 0 ⟨zzK _,by simp⟩ h0
 rintro B-i ⟨hi,ha⟩ hx;by_cases hlt:i<vs.length
 ·have h1:(i:Int)<vs.length:=by omega
  have h3:=wr1 (i:=i) (by omega)
  have e:=qyM T hS vs[i].Typ
  by_cases hs:vs[i].Name=x.S
  ·have hv:qbH x.S vs=if qbl vs[i].Typ=true then (vs[i].Typ,0)else (0,3):=by
    conv=>lhs;rw[qkQ vs i hlt,qtx x.S _ _ ha,qbH,if_pos hs]
   rw[hv]at hr;cases hk:qbl vs[i].Typ with
   |true =>
    rw[hk]at e hr;simp only[if_true]at hr;simp[h1,hlt,hs,e];exact hr _ _ (by simp[Fr.get]) (by simp[Fr.get]) (by simp[qak,gh])
   |false =>
    rw[hk]at e hr;simp only[zzg,if_false]at hr;simp[h1,hlt,hs,e];exact hr _ _ (by simp[Fr.get]) (by simp[Fr.get]) (by simp[qak,gh])
  ·have g:(vs[i].Name==x.S)=false:=by simpa using hs
   have hx':=hx (i+1) ⟨by omega,by
    rw[zzw hlt];intro v hv;rcases zzB.1 hv with hv|hv
    ·exact ha v hv
    ·rw[zzH.1 hv];exact hs⟩ (by omega)
   simp[h1,hlt,g,h3];exact hx' _ _ (by simp)
 ·have:i=vs.length:=by omega
  subst this;rw[List.take_length]at ha;have he':=he (qm7 x.S vs ha)
  have h1:¬((vs.length:Int)<vs.length):=by omega
  simp;exact he'
theorem qLf(T:Tab)(hS:HS T)(x:AExpr)(vs:List AVar)(tv:Bool)(hv:vs.length≤1000)(h:x.Op=1∨x.Op=2∨x.Op=3∨x.Op=4) :
  T.val 860 [x.dv,.l (K1 2) (vs.map AVar.dv) tv]=some (two (if x.Op=4 then qbH x.S vs else (x.Op,0))):=by
 have lp:=fun k r fr H => @qDb T hS x vs tv hv k r fr H
 unfold two;rw[qab T (hS 860 F860 rfl) rfl];rcases h with h|h|h|h
 ·rw[h,if_neg (by decide)]
  simp[F860,Fr.ofArgs,h]
 ·rw[h,if_neg (by decide)]
  simp[F860,Fr.ofArgs,h]
 ·rw[h,if_neg (by decide)]
  simp[F860,Fr.ofArgs,h]
 ·rw[h,if_pos rfl];simp[F860,Fr.ofArgs,h];refine lp _ _ _ _ (fun h => ?_) (fun fr J h4 h5 hg => ?_) (by simp)
  ·rw[h];simp
  ·simp[h4,h5,hg]
def tV:List DV→PV
 | []=>.r 0 K0 0 0 true
 | _::r=>.r 0 K0 0 (r.length+1) false
theorem qDc(T:Tab)(x:AExpr)(l:List AExpr)(h2:x.Args.l=l.map AExpr.dv)(g:AExpr→Int×Int)(V:DV)(hg:∀a∈l,T.val 860 [a.dv,V]=some (two (g a)))(hn:l.length*56≤140737488355328){k:KC (PV×Bool)}{r:Option (PV×Bool)}{fr:Fr}{H:Heap}
  (he:qaE (fun a=>(g a).2) l=0→k (.exit 3) [(63,.d (.b false)),(8,.d (I l.length)),(7,tV (l.map fun a=>I (g a).1)),(2,.p 1 0 0),(1,.d V)] [some (.sl K0 0 (l.map fun a=>I (g a).1)),some (.box (K1 4) (.d x.dv))]=r)
  (hr:qaE (fun a=>(g a).2) l≠0→∀fr J,fr.get 4 = .d (I 0)→fr.get 5 = .d (I (qaE (fun a=>(g a).2) l))→qak fr=[]→k .ret fr J=r)
  (h0:gc [1,2,7,8] 0 ⟨fr,H⟩=⟨[(8,.d (I 0)),(7,tV []),(2,.p 1 0 0),(1,.d V)],[some (.sl K0 0 []),some (.box (K1 4) (.d x.dv))]⟩) :
  kC T.env 0 fr H (.h (.loop [1,2,7,8] qjb,k))=r:=by
 refine qbB (fun i:Nat=>⟨[(8,.d (I i)),(7,tV ((l.take i).map fun a=>I (g a).1)),(2,.p 1 0 0),(1,.d V)],[some (.sl K0 0 ((l.take i).map fun a=>I (g a).1)),some (.box (K1 4) (.d x.dv))]⟩) (fun i=>i≤l.length∧∀v∈l.take i,(g v).2=0) (fun i=>l.length-i) ?_ 0 ⟨zzK _,by simp⟩ (by rw[h0];rfl)
 rintro B-i ⟨hi,ha⟩ hx;by_cases hlt:i<l.length
 ·have h1:(i:Int)<l.length:=by omega
  have h3:=wr1 (i:=i) (by omega)
  have e:=hg l[i] (zzs hlt)
  unfold two at e;have hl:((l.take i).map fun a=>I (g a).1).length≤i:=by simp;omega
  by_cases hs:(g l[i]).2=0
  ·have hx':=hx (i+1) ⟨by omega,by
    rw[zzw hlt];intro v hv;rcases zzB.1 hv with hv|hv
    ·exact ha v hv
    ·rw[zzH.1 hv];exact hs⟩ (by omega)
   rw[qkV (fun a:AExpr=>I (g a).1) l i hlt]at hx'
   rw[hs]at e;generalize (l.take i).map (fun a=>I (g a).1)=o at *
   cases o with
   |nil =>
    simp only[tV,List.nil_append]at hx'⊢;simp[h1,hlt,h2,h3,e];exact hx' _ _ (by simp)
   |cons y o =>
    simp only[tV,List.cons_append]at hx'⊢;simp only[zzn]at hl;have h5:(o.length+1+1)*8≤140737488355328:=by omega
    have ht:o.take o.length=o:=zzv (zzt _)
    simp[h1,hlt,h2,h3,h5,ht,e];exact hx' _ _ (by simp)
  ·have hf:qaE (fun a=>(g a).2) l=(g l[i]).2:=by
    conv=>lhs;rw[qkQ l i hlt,qmn _ _ _ ha,qaE,if_neg hs]
   rw[hf]at hr;have hr':=hr hs
   have gs:=qac hs
   generalize (l.take i).map (fun a=>I (g a).1)=o at *
   cases o with
   |nil =>
    simp only[tV];simp[h1,hlt,h2,e,gs,bne];exact hr' _ _ (by simp[Fr.get]) (by simp[Fr.get]) (by simp[qak,gh])
   |cons y o =>
    simp only[tV];simp[h1,hlt,h2,e,gs,bne];exact hr' _ _ (by simp[Fr.get]) (by simp[Fr.get]) (by simp[qak,gh])
 ·have:i=l.length:=by omega
  subst this;rw[List.take_length]at ha⊢;have he':=he ((qhe _ _).2 ha)
  have h1:¬((l.length:Int)<l.length):=by omega
  generalize l.map (fun a=>I (g a).1)=o at *
  cases o with
  |nil =>
   simp only[tV]at he'⊢;simp[h2];exact he'
  |cons y o =>
   simp only[tV]at he'⊢;simp[h2];exact he'
theorem qLg(T:Tab)(hS:HS T)(x:AExpr)(l:List AExpr)(h2:x.Args.l=l.map AExpr.dv)(V:DV)(g:AExpr→Int×Int)(hg:∀a∈l,T.val 860 [a.dv,V]=some (two (g a)))(ho:5≤x.Op∧x.Op≤19)(hl:l.length≤3)(hl0:l≠[]) :
  T.val 860 [x.dv,V]=some (two (qmK x.Op l g)):=by
 have lp:=fun k r fr H => @qDc T x l h2 g V hg (by omega) k r fr H
 have e925:=qyN T hS x.Op (l.map fun a=>(g a).1) false (by simpa using hl) ho
 rw[List.map_map]at e925;have hmm:((fun n=>I n)∘fun a:AExpr=>(g a).1)=fun a:AExpr=>I (g a).1:=rfl
 rw[hmm]at e925;have n1:¬x.Op=1:=by omega
 have n2:¬x.Op=2:=by omega
 have n3:¬x.Op=3:=by omega
 have n4:¬x.Op=4:=by omega
 have g1:=qac n1
 have g2:=qac n2
 have g3:=qac n3
 have g4:=qac n4
 unfold qmK;generalize qaO x.Op (l.map fun a=>(g a).1)=p at *
 obtain⟨w,ok⟩:=p;unfold qaz at e925;simp only at e925⊢;rw[qab T (hS 860 F860 rfl) rfl];unfold two;simp[F860,Fr.ofArgs,g1,g2,g3,g4];refine lp _ _ _ _ (fun h => ?_) (fun h fr J h4 h5 hg' => ?_) (by simp[tV])
 ·rw[if_pos h];cases hm:l.map (fun a=>I (g a).1)with
  |nil=>exact absurd (by simpa using hm) hl0
  |cons y o' =>
   rw[hm]at e925;have ht:o'.take o'.length=o':=zzv (zzt _)
   simp only[tV];cases ok with
   |false=>simp[e925,qaK,pur,qa9,PV.scal,PV.scal1,DV.scal,DV.scal1,ht]
   |true=>simp[e925,qaK,pur,qa9,PV.scal,PV.scal1,DV.scal,DV.scal1,ht]
 ·rw[if_neg h];simp[h4,h5,hg']
theorem qve{x:AExpr}(h:qhT x=true):(x.Op=1∨x.Op=2∨x.Op=3∨x.Op=4)∨(5≤x.Op∧x.Op≤19∧1≤x.Args.l.length∧x.Args.l.length≤3):=by
 simp only[qhT,zzf,beq_iff_eq]at h;have h:=h.1.1.1
 unfold qbU at h;split at h
 ·exact .inl (by omega)
 split at h
 ·exact .inr (by omega)
 split at h
 ·exact .inr (by omega)
 split at h
 ·exact .inr (by omega)
 ·exfalso;omega
abbrev RT(T:Tab)(x:AExpr):Prop:=T.val 921 [x.dv]=some (.d (.b true),false)
theorem qxD{T:Tab}(hS:HS T)(hT:HT T){x:AExpr}(hx:x.ok)(h:RT T x):qhT x=true∧∀l:List AExpr,x.Args.l=l.map AExpr.dv→∀a∈l,RT T a:=by
 obtain⟨b,e,-,k⟩:=qyL T hS hT _ x (Nat.lt_succ_self _) hx;unfold RT at h;rw[e]at h;injection h with h;injection h with h _;injection h with h;injection h with h
 exact k h
theorem qLe(T:Tab)(hS:HS T)(hT:HT T)(hA:HA T)(vs:List AVar)(tv:Bool)(hv:vs.length≤1000):∀(n:Nat) (x:AExpr),SizeOf.sizeOf x.dv<n→x.ok→RT T x→∃p,T.val 400 [x.dv,.l (K1 2) (vs.map AVar.dv) tv]=some (two p)∧T.val 860 [x.dv,.l (K1 2) (vs.map AVar.dv) tv]=some (two p):=by
 intro n;induction n with
 |zero=>intro x h;exact absurd h (zzm _)
 |succ n ih =>
  intro x hn hx hR;obtain⟨hF,hK⟩:=qxD hS hT hx hR;rcases qve hF with h|⟨o1,o2,l1,l2⟩
  ·exact⟨_,qtn T hT x vs tv hv h,qLf T hS x vs tv hv h⟩
  ·obtain⟨l,h2,h3,h4⟩:=qiB hx;have hll:x.Args.l.length=l.length:=by rw[h2,zzo]
   obtain⟨g,hg⟩:=qg9 (P:=fun (a:AExpr) (p:Int×Int)=>T.val 400 [a.dv,.l (K1 2) (vs.map AVar.dv) tv]=some (two p)∧T.val 860 [a.dv,.l (K1 2) (vs.map AVar.dv) tv]=some (two p)) (fun a ha=>ih a (by have:=qiA h2 ha;omega) (h3 a ha) (hK l h2 a ha))
   exact⟨_,qyx T hT hA x l h2 h4 _ g (fun a ha=>(hg a ha).1) (by omega) (by omega) (by omega) (by omega),qLg T hS x l h2 _ g (fun a ha=>(hg a ha).2) ⟨o1,o2⟩ (by omega) (fun h=>by rw[h,List.length_nil]at hll;omega)⟩
theorem qCC(T:Tab)(x:AExpr)(vs:List AVar)(es:List AValue)(tv te:Bool)(hn:vs.length≤1000)(hl:vs.length=es.length)(hf:(qbH x.S vs).2=0){k:KC (PV×Bool)}{r:Option (PV×Bool)}{fr:Fr}{H:Heap}(z:DV)
  (hr:∀fr J,fr.get 6 = .p 0 0 0→qak fr=[]→k .ret fr (some (.box (K1 2) (.d (qge x.S vs es).dv))::J)=r)
  (h0:gc [1,2,3,6,7] 0 ⟨fr,H⟩=⟨[(7,.d (I 0)),(6,.p 0 0 0),(3,.p 1 0 0),(2,.d (.l (K1 2) (es.map AValue.dv) te)),(1,.d (.l (K1 2) (vs.map AVar.dv) tv))],[some (.box (K1 2) (.d z)),some (.box (K1 4) (.d x.dv))]⟩) :
  kC T.env 0 fr H (.h (.loop [1,2,3,6,7] qpt,k))=r:=by
 refine qbB (fun i:Nat=>⟨[(7,.d (I i)),(6,.p 0 0 0),(3,.p 1 0 0),(2,.d (.l (K1 2) (es.map AValue.dv) te)),(1,.d (.l (K1 2) (vs.map AVar.dv) tv))],[some (.box (K1 2) (.d z)),some (.box (K1 4) (.d x.dv))]⟩) (fun i=>i≤vs.length∧∀v∈vs.take i,v.Name≠x.S) (fun i=>vs.length-i) ?_ 0 ⟨zzK _,by simp⟩ h0
 rintro B-i ⟨hi,ha⟩ hx;by_cases hlt:i<vs.length
 ·have h1:(i:Int)<vs.length:=by omega
  have h1':(i:Int)<es.length:=by omega
  have hlt':i<es.length:=by omega
  have h3:=wr1 (i:=i) (by omega)
  by_cases hs:vs[i].Name=x.S
  ·rw[qqC x.S vs es i hlt hlt' ha hs]at hr;simp[h1,h1',hlt,hlt',hs];exact hr _ _ (by simp[Fr.get]) (by simp[qak,gh])
  ·have g:=qg0 hs
   have hx':=hx (i+1) ⟨by omega,by
    rw[zzw hlt];intro v hv;rcases zzB.1 hv with hv|hv
    ·exact ha v hv
    ·rw[zzH.1 hv];exact hs⟩ (by omega)
   simp[h1,hlt,g,h3];exact hx' _ _ (by simp)
 ·exfalso
  have:i=vs.length:=by omega
  subst this;rw[List.take_length]at ha;rw[qm7 x.S vs ha]at hf;cases hf
theorem qJT(T:Tab)(hR:HR T)(x:AExpr)(V E:DV)(h:x.Op=1∨x.Op=2∨x.Op=3):T.val 1048 [x.dv,V,E]=some (.d (⟨x.Op,x.N⟩:AValue).dv,false):=by
 rw[qab T (hR 1048 F1048 rfl) rfl];rcases h with h|h|h
 ·rw[h];simp[F1048,Fr.ofArgs,h,↓qaA,↓qaC,↓qaB,putAt,mkA,qax,qay,AValue.dv]
 ·rw[h];simp[F1048,Fr.ofArgs,h,↓qaA,↓qaC,↓qaB,putAt,mkA,qax,qay,AValue.dv]
 ·rw[h];simp[F1048,Fr.ofArgs,h,↓qaA,↓qaC,↓qaB,putAt,mkA,qax,qay,AValue.dv]
theorem qJU(T:Tab)(hR:HR T)(x:AExpr)(vs:List AVar)(es:List AValue)(tv te:Bool)(hn:vs.length≤1000)(hl:vs.length=es.length)(h:x.Op=4)(hf:(qbH x.S vs).2=0):T.val 1048 [x.dv,.l (K1 2) (vs.map AVar.dv) tv,.l (K1 2) (es.map AValue.dv) te]=some (.d (qge x.S vs es).dv,false):=by
 have lp:=fun k r fr H => @qCC T x vs es tv te hn hl hf k r fr H (.a [I 0,I 0])
 rw[qab T (hR 1048 F1048 rfl) rfl];simp[F1048,Fr.ofArgs,h];refine lp _ _ _ _ (fun fr J h6 hg => ?_) (by simp)
 simp[h6,hg]
theorem qyc(T:Tab)(hR:HR T)(x:AExpr)(h0:x.Args.l.length=0)(V E:DV)(v:AValue)(e:T.val 1048 [x.dv,V,E]=some (.d v.dv,false)):T.val 1042 [x.dv,V,E]=some (qam (v,0)):=by
 obtain⟨o,m,w,l⟩:=x;obtain⟨l,t⟩:=l;obtain rfl:l=[]:=List.length_eq_zero_iff.1 h0;unfold qam;rw[qab T (hR 1042 F1042 rfl) rfl];simp[F1042,Fr.ofArgs,e]
theorem qCx(T:Tab)(x:AExpr)(l:List AExpr)(h2:x.Args.l=l.map AExpr.dv)(g:AExpr→AValue×Int)(V E z:DV)(hg:∀a∈l,T.val 1042 [a.dv,V,E]=some (qam (g a)))(hn:l.length*56≤140737488355328){k:KC (PV×Bool)}{r:Option (PV×Bool)}{fr:Fr}{H:Heap}
  (he:qaE (fun a=>(g a).2) l=0→k (.exit 0) [(55,.d (.b false)),(11,.d (I l.length)),(10,qao (K1 2) (l.map fun a=>(g a).1.dv)),(6,pB 0 (l.map fun a=>(g a).1.dv)),(3,pB 1 (l.map fun a=>(g a).1.dv)),(2,.d E),(1,.d V)] (qbd (K1 2) [some (.box (K1 2) (.d z)),some (.box (K1 4) (.d x.dv))] (l.map fun a=>(g a).1.dv))=r)
  (hr0:qaE (fun a=>(g a).2) l≠0→∀fr J,fr.get 6 = .p 0 0 0→fr.get 7 = .d (I (qaE (fun a=>(g a).2) l))→qak fr=[]→k .ret fr (some (.box (K1 2) (.d (.a [I 0,I 0])))::J)=r)
  (hr1:qaE (fun a=>(g a).2) l≠0→∀fr s J,fr.get 6 = .p 1 0 0→fr.get 7 = .d (I (qaE (fun a=>(g a).2) l))→qak fr=[]→k .ret fr (s::some (.box (K1 2) (.d (.a [I 0,I 0])))::J)=r)
  (h0:gc [1,2,3,6,10,11] 0 ⟨fr,H⟩=⟨[(11,.d (I 0)),(10,.d (.l (K1 2) [] true)),(6,.p 0 0 0),(3,.p 1 0 0),(2,.d E),(1,.d V)],[some (.box (K1 2) (.d z)),some (.box (K1 4) (.d x.dv))]⟩) :
  kC T.env 0 fr H (.h (.loop [1,2,3,6,10,11] qja,k))=r:=by
 refine qbB (fun i:Nat=>⟨[(11,.d (I i)),(10,qao (K1 2) ((l.take i).map fun a=>(g a).1.dv)),(6,pB 0 ((l.take i).map fun a=>(g a).1.dv)),(3,pB 1 ((l.take i).map fun a=>(g a).1.dv)),(2,.d E),(1,.d V)],qbd (K1 2) [some (.box (K1 2) (.d z)),some (.box (K1 4) (.d x.dv))] ((l.take i).map fun a=>(g a).1.dv)⟩) (fun i=>i≤l.length∧∀v∈l.take i,(g v).2=0) (fun i=>l.length-i) ?_ 0 ⟨zzK _,by simp⟩ (by rw[h0];rfl)
 rintro B-i ⟨hi,ha⟩ hx;by_cases hlt:i<l.length
 ·have h1:(i:Int)<l.length:=by omega
  have h3:=wr1 (i:=i) (by omega)
  have e:=hg l[i] (zzs hlt)
  unfold qam at e;have hl:((l.take i).map fun a=>(g a).1.dv).length≤i:=by simp;omega
  by_cases hs:(g l[i]).2=0
  ·have hx':=hx (i+1) ⟨by omega,by
    rw[zzw hlt];intro v hv;rcases zzB.1 hv with hv|hv
    ·exact ha v hv
    ·rw[zzH.1 hv];exact hs⟩ (by omega)
   rw[qkV (fun a:AExpr=>(g a).1.dv) l i hlt]at hx'
   rw[hs]at e;generalize (l.take i).map (fun a=>(g a).1.dv)=o at *
   cases o with
   |nil =>
    simp only[qao,qbd,pB,List.nil_append]at hx'⊢;simp[h1,hlt,h2,h3,e];exact hx' _ _ (by simp)
   |cons y o =>
    simp only[qao,qbd,pB,List.cons_append]at hx'⊢;simp only[zzn]at hl;have h5:(o.length+1+1)*16≤140737488355328:=by omega
    have ht:o.take o.length=o:=zzv (by simp)
    simp[h1,hlt,h2,h3,h5,ht,e];exact hx' _ _ (by simp)
  ·have hf:qaE (fun a=>(g a).2) l=(g l[i]).2:=by
    conv=>lhs;rw[qkQ l i hlt,qmn _ _ _ ha,qaE,if_neg hs]
   rw[hf]at hr0 hr1;have gs:=qac hs
   generalize (l.take i).map (fun a=>(g a).1.dv)=o at *
   cases o with
   |nil =>
    have hr':=hr0 hs
    simp only[qao,qbd,pB]at⊢;simp[h1,hlt,h2,e,gs,bne,↓qaA,↓qaC,mkA,qal];exact hr' _ _ (by simp[Fr.get]) (by simp[Fr.get]) (by simp[qak,gh])
   |cons y o =>
    have hr':=hr1 hs
    simp only[qao,qbd,pB]at⊢;simp[h1,hlt,h2,e,gs,bne,↓qaA,↓qaC,mkA,qal];exact hr' _ _ _ (by simp[Fr.get]) (by simp[Fr.get]) (by simp[qak,gh])
 ·have:i=l.length:=by omega
  subst this;rw[List.take_length]at ha⊢;have he':=he ((qhe _ _).2 ha)
  have h1:¬((l.length:Int)<l.length):=by omega
  generalize l.map (fun a=>(g a).1.dv)=o at *
  cases o with
  |nil =>
   simp only[qao,qbd,pB]at he'⊢;simp[h2];exact he'
  |cons y o =>
   simp only[qao,qbd,pB]at he'⊢;simp[h2];exact he'
theorem qJO(T:Tab)(hR:HR T)(hV:HV T)(hS:HS T)(x:AExpr)(l:List AExpr)(h2:x.Args.l=l.map AExpr.dv)(hn:l.length*56≤140737488355328)(V E:DV)(g:AExpr→AValue×Int)(hg:∀a∈l,T.val 1042 [a.dv,V,E]=some (qam (g a)))(hi:∀a∈l,(g a).2=0→(g a).1.i)(hl0:l≠[])(n5:x.Op≠19)
  (hr:qaE (fun a=>(g a).2) l=0→(qaO x.Op ((l.map fun a=>(g a).1).map (·.Typ))).2=true) :
  T.val 1042 [x.dv,V,E]=some (qam (if qaE (fun a=>(g a).2) l=0 then qfY x.Op (l.map fun a=>(g a).1)else (⟨0,0⟩,qaE (fun a=>(g a).2) l))):=by
 have lp:=fun k r fr H => @qCx T x l h2 g V E (.a [I 0,I 0]) hg hn k r fr H
 have hmm:∀(l:List AExpr),(l.map fun a=>(g a).1).map AValue.dv=l.map fun a=>(g a).1.dv:=fun l=>by rw[List.map_map];rfl
 have e1049:=fun b (h:qaE (fun a=>(g a).2) l=0)=>qJV T hR hV hS x.Op (l.map fun a=>(g a).1) b (fun v hv=>by
  obtain⟨a,ha,rfl⟩:=List.mem_map.1 hv;exact hi a ha ((qhe _ _).1 h a ha)) (hr h)
 simp only[hmm]at e1049;have g5:=qac n5
 have hll:x.Args.l.length≠0:=by rw[h2,zzo];exact fun h=>hl0 (List.length_eq_zero_iff.1 h)
 have gl:((x.Args.l.length:Int)==0)=false:=qac (by omega)
 generalize qfY x.Op (l.map fun a=>(g a).1)=p at *
 obtain⟨v,f⟩:=p;unfold qam at e1049⊢;simp only at e1049;rw[qab T (hR 1042 F1042 rfl) rfl];simp[F1042,Fr.ofArgs,gl,g5];refine lp _ _ _ _ (fun h => ?_) (fun h fr J h6 h7 hg' => ?_) (fun h fr z J h6 h7 hg' => ?_) (by simp)
 ·rw[if_pos h];cases ho:l.map (fun a=>(g a).1.dv)with
  |nil=>exact absurd (by simpa using ho) hl0
  |cons y o' =>
   have ef:=e1049 false h
   rw[ho]at ef;have ht:o'.take o'.length=o':=zzv (by simp)
   simp[qao,qbd,pB,ht,qaK,pur,qa9,qxO,ef]
 ·rw[if_neg h];simp[h6,h7,hg',AValue.dv]
 ·rw[if_neg h];simp[h6,h7,hg',AValue.dv]
theorem qJN(T:Tab)(hR:HR T)(x c a b:AExpr)(h2:x.Args.l=[c.dv,a.dv,b.dv])(V E:DV)(p q s:AValue×Int)(hc:T.val 1042 [c.dv,V,E]=some (qam p))(ha:p.2=0→p.1.N=1→T.val 1042 [a.dv,V,E]=some (qam q))(hb:p.2=0→p.1.N=0→T.val 1042 [b.dv,V,E]=some (qam s))(h01:p.2=0→p.1.N=0∨p.1.N=1)(h:x.Op=19) :
  T.val 1042 [x.dv,V,E]=some (qam (if p.2=0 then (if p.1.N=1 then q else s)else (⟨0,0⟩,p.2))):=by
 obtain⟨o,m,w,l⟩:=x;obtain⟨l,t⟩:=l;simp only at h2 h;subst h2;subst h;obtain⟨v,f⟩:=p;unfold qam at *
 simp only at hc ha hb h01⊢;have w0:IntKind.i64.wrap 0=0:=by decide
 have w1:IntKind.i64.wrap 1=1:=by decide
 have w2:IntKind.i64.wrap 2=2:=by decide
 rw[qab T (hR 1042 F1042 rfl) rfl];by_cases hf:f=0
 ·subst hf;rw[if_pos rfl];rcases h01 rfl with hn|hn
  ·have e:=hb rfl hn
   rw[if_neg (by omega)]
   simp[F1042,Fr.ofArgs,hc,hn,e,w2]
  ·have e:=ha rfl hn
   rw[if_pos hn];simp[F1042,Fr.ofArgs,hc,hn,e,w1]
 ·have gf:=qac hf
  rw[if_neg hf];simp[F1042,Fr.ofArgs,hc,gf,bne,↓qaA,↓qaC,mkA,qal,AValue.dv]
def TW2(T:Tab)(V E:DV)(x:AExpr)(p:Int×Int):Prop :=
 T.val 400 [x.dv,V]=some (two p)∧(p.2=0→∃q:AValue×Int,T.val 947 [x.dv,V,E]=some (qam q)∧T.val 1042 [x.dv,V,E]=some (qam q)∧(q.2=0→q.1.Typ=p.1∧q.1.i∧(p.1=5→q.1.N=0∨q.1.N=1)))
theorem qJo(T:Tab)(hT:HT T)(hA:HA T)(hR:HR T)(hV:HV T)(hS:HS T)(vs:List AVar)(es:List AValue)(tv te:Bool)(hv:vs.length≤1000)(hE:qk2 vs es):∀(n:Nat) (x:AExpr),SizeOf.sizeOf x.dv<n→x.ok→RT T x→∃p,TW2 T (.l (K1 2) (vs.map AVar.dv) tv) (.l (K1 2) (es.map AValue.dv) te) x p:=by
 intro n;induction n with
 |zero=>intro x h;exact absurd h (zzm _)
 |succ n ih =>
  intro x hn hx hRT;obtain⟨hF,hK⟩:=qxD hS hT hx hRT;rcases qve hF with hleaf|⟨o1,o2,l1,l2⟩
  ·have hl0:x.Args.l.length=0:=by
    have h:=hF
    simp only[qhT,zzf,beq_iff_eq]at h;have h:=h.1.1.1
    unfold qbU at h;rw[if_pos (by omega)]at h
    omega
   by_cases n4:x.Op=4
   ·have e:=qtn T hT x vs tv hv (.inr (.inr (.inr n4)))
    rw[if_pos n4]at e;refine⟨_,e,fun h0=>⟨_,qLB T hT x vs es tv te hv hE.1 n4 h0,qyc T hR x hl0 _ _ _ (qJU T hR x vs es tv te hv hE.1 n4 h0),fun _=>qyQ x.S vs es hE h0⟩⟩
   ·have n123:x.Op=1∨x.Op=2∨x.Op=3:=by omega
    have e:=qtn T hT x vs tv hv hleaf
    rw[if_neg n4]at e;refine⟨_,e,fun h0=>⟨_,qLz T hT x _ _ n123,qyc T hR x hl0 _ _ _ (qJT T hR x _ _ n123),fun _=>⟨rfl,?_,fun h5 => ?_⟩⟩⟩
    ·have:=qA0 hx.2.1
     exact⟨this.1,by show x.N<_;omega⟩
    ·simp only at h5;omega
  have n1:x.Op≠1:=by omega
  have n2:x.Op≠2:=by omega
  have n3:x.Op≠3:=by omega
  have n4:x.Op≠4:=by omega
  obtain⟨l,h2,h3,h4⟩:=qiB hx;have hll:x.Args.l.length=l.length:=by rw[h2,zzo]
  have hl0:l≠[]:=fun h=>by rw[h,List.length_nil]at hll;omega
  obtain⟨g,hg⟩:=qg9 (P:=fun (a:AExpr) (p:Int×Int)=>TW2 T (.l (K1 2) (vs.map AVar.dv) tv) (.l (K1 2) (es.map AValue.dv) te) a p) (fun a ha=>ih a (by have:=qiA h2 ha;omega) (h3 a ha) (hK l h2 a ha))
  have e400:=qyx T hT hA x l h2 h4 (.l (K1 2) (vs.map AVar.dv) tv) g (fun a ha=>(hg a ha).1) n1 n2 n3 n4
  refine⟨_,e400,fun h0 => ?_⟩
  unfold qmK at h0⊢;by_cases hf:qaE (fun a=>(g a).2) l=0
  ·rw[if_pos hf]at h0⊢;by_cases hr:(qaO x.Op (l.map fun a=>(g a).1)).2=true
   ·rw[if_pos hr];have hall:=(qhe _ _).1 hf
    haveI:Nonempty (AValue×Int):=⟨(⟨0,0⟩,0)⟩
    obtain⟨G,hG⟩:=qg9 (P:=fun (a:AExpr) (q:AValue×Int)=>T.val 947 [a.dv,.l (K1 2) (vs.map AVar.dv) tv,.l (K1 2) (es.map AValue.dv) te]=some (qam q)∧T.val 1042 [a.dv,.l (K1 2) (vs.map AVar.dv) tv,.l (K1 2) (es.map AValue.dv) te]=some (qam q)∧(q.2=0→q.1.Typ=(g a).1∧q.1.i∧((g a).1=5→q.1.N=0∨q.1.N=1))) (fun a ha=>(hg a ha).2 (hall a ha))
    by_cases n5:x.Op=19
    ·rw[n5]at hr⊢;obtain⟨b,hb,hb1⟩:=qIH hr;rw[hb1];obtain⟨c,a,d,hl3,hc5,ha5,hd5⟩:=qJi hb;rw[hl3]at h2 hG;have Gc:=hG c (by simp)
     have Ga:=hG a (by simp)
     have Gd:=hG d (by simp)
     have e:=qLy T hT x c a d h2 _ _ (G c) (G a) (G d) Gc.1 (fun _ _=>Ga.1) (fun _ _=>Gd.1) (fun h=>(Gc.2.2 h).2.2 hc5) n5
     have e':=qJN T hR x c a d h2 _ _ (G c) (G a) (G d) Gc.2.1 (fun _ _=>Ga.2.1) (fun _ _=>Gd.2.1) (fun h=>(Gc.2.2 h).2.2 hc5) n5
     refine⟨_,e,e',?_⟩;by_cases f0:(G c).2=0
     ·rw[if_pos f0];by_cases c1:(G c).1.N=1
      ·rw[if_pos c1];intro h
       have:=Ga.2.2 h
       rw[ha5]at this;exact this
      ·rw[if_neg c1];intro h
       have:=Gd.2.2 h
       rw[hd5]at this;exact this
     ·rw[if_neg f0];intro h;exact absurd h f0
    ·have ht:qaE (fun a=>(G a).2) l=0→(l.map fun a=>(G a).1).map (·.Typ)=l.map fun a=>(g a).1:=fun f0=>by
      have hall2:=(qhe _ _).1 f0
      rw[List.map_map];apply List.map_congr_left
      intro a ha;exact ((hG a ha).2.2 (hall2 a ha)).1
     have e:=qLA T hT hA x l h2 h4 _ _ G (fun a ha=>(hG a ha).1) (fun a ha h=>((hG a ha).2.2 h).2.1) n1 n2 n3 n4 n5
     have e':=qJO T hR hV hS x l h2 h4 _ _ G (fun a ha=>(hG a ha).2.1) (fun a ha h=>((hG a ha).2.2 h).2.1) hl0 n5 (fun f0=>by rw[ht f0];exact hr)
     refine⟨_,e,e',?_⟩;by_cases f0:qaE (fun a=>(G a).2) l=0
     ·rw[if_pos f0];intro h;have hall2:=(qhe _ _).1 f0
      have:=qzc x.Op (l.map fun a=>(G a).1) (fun v hv=>by
       obtain⟨a,ha,rfl⟩:=List.mem_map.1 hv;exact ((hG a ha).2.2 (hall2 a ha)).2.1) (by rw[ht f0];exact hr) h
      rw[ht f0]at this;exact this
     ·rw[if_neg f0];intro h;exact absurd h f0
   ·rw[if_neg hr]at h0;cases h0
  ·rw[if_neg hf]at h0;exact absurd h0 hf
theorem qCw(T:Tab)(hV:HV T)(vs:List AVar)(es:List AValue)(tv te:Bool)(hn:vs.length≤1000)(hl:vs.length=es.length){k:KC (PV×Bool)}{r:Option (PV×Bool)}{fr:Fr}{H:Heap}
  (he:evB vs es=true→k (.exit 0) [(14,.d (.b false)),(5,.d (I es.length)),(1,.d (.l (K1 2) (es.map AValue.dv) te)),(0,.d (.l (K1 2) (vs.map AVar.dv) tv))] []=r)
  (hr:evB vs es=false→∀fr J,fr.get 4 = .d (.b false)→qak fr=[]→k .ret fr J=r)
  (h0:gc [0,1,5] 0 ⟨fr,H⟩=⟨[(5,.d (I 0)),(1,.d (.l (K1 2) (es.map AValue.dv) te)),(0,.d (.l (K1 2) (vs.map AVar.dv) tv))],[]⟩) :
  kC T.env 0 fr H (.h (.loop [0,1,5] qlU,k))=r:=by
 refine qbB (fun i:Nat=>⟨[(5,.d (I i)),(1,.d (.l (K1 2) (es.map AValue.dv) te)),(0,.d (.l (K1 2) (vs.map AVar.dv) tv))],[]⟩) (fun i=>i≤es.length∧evB vs es=evB (vs.drop i) (es.drop i)) (fun i=>es.length-i) ?_ 0 ⟨zzK _,by simp⟩ h0
 rintro B-i ⟨hi,ha⟩ hx;by_cases hlt:i<es.length
 ·have h1:(i:Int)<es.length:=by omega
  have h1':(i:Int)<vs.length:=by omega
  have hlt':i<vs.length:=by omega
  have h3:=wr1 (i:=i) (by omega)
  have e:=qtj T hV es[i]
  rw[zzz hlt,zzz hlt',evB]at ha;by_cases c:es[i].Typ=vs[i].Typ
  ·cases hk:okV es[i]with
   |true =>
    rw[hk,decide_eq_true c,Bool.true_and,Bool.true_and]at ha;rw[hk]at e;have hx':=hx (i+1) ⟨by omega,ha⟩ (by omega)
    simp[h1,h1',hlt,hlt',c,e,bne,h3];exact hx' _ _ (by simp)
   |false =>
    rw[hk,Bool.and_false,Bool.false_and]at ha;rw[hk]at e;have hr':=hr ha
    simp[h1,h1',hlt,hlt',c,e,bne];exact hr' _ _ (by simp[Fr.get]) (by simp[qak,gh])
  ·rw[decide_eq_false c,Bool.false_and,Bool.false_and]at ha;have g:=qac c
   have hr':=hr ha
   simp[h1,h1',hlt,hlt',g,bne];exact hr' _ _ (by simp[Fr.get]) (by simp[qak,gh])
 ·have:i=es.length:=by omega
  subst this;rw[zzF (zzt _),zzF (by omega)]at ha
  have he':=he ha
  have h1:¬((es.length:Int)<es.length):=by omega
  simp;exact he'
theorem qJM(T:Tab)(hR:HR T)(hV:HV T)(vs:List AVar)(es:List AValue)(tv te:Bool)(hn:vs.length≤1000):T.val 1041 [.l (K1 2) (vs.map AVar.dv) tv,.l (K1 2) (es.map AValue.dv) te]=some (.d (.b (evB vs es)),false):=by
 rw[qab T (hR 1041 F1041 rfl) rfl];by_cases hl:vs.length=es.length
 ·have lp:=fun k r fr H => @qCw T hV vs es tv te hn hl k r fr H
  have hli:((vs.length:Int)==(es.length:Int))=true:=by simp[hl]
  simp[F1041,Fr.ofArgs,hl,bne];refine lp _ _ _ _ (fun h => ?_) (fun h fr J h4 hg => ?_) (by simp)
  ·rw[h];simp
  ·rw[h];simp[h4,hg]
 ·have hli:((vs.length:Int)==(es.length:Int))=false:=qac (by omega)
  have hli2:¬((vs.length:Int)=(es.length:Int)):=by omega
  rw[qqI vs es hl];simp[F1041,Fr.ofArgs,hli,bne]
theorem qJE(T:Tab)(hN:HNx T)(hA:HA T)(hR:HR T)(hV:HV T)(vs:List AVar)(es:List AValue)(tv te:Bool)(hv:vs.length≤1000)(hi:∀e∈es,e.i)(h945:T.val 945 [.l (K1 2) (vs.map AVar.dv) tv]=some (.d (I 0),false))(h1040:T.val 1040 [.l (K1 2) (vs.map AVar.dv) tv]=some (.d (I 0),false))(x:AExpr)(hx:x.ok)(hc:qap x.dv 100≤100) :
  ∃q:AValue×Int,T.val 916 [x.dv,.l (K1 2) (vs.map AVar.dv) tv,.l (K1 2) (es.map AValue.dv) te]=some (qam q)∧T.val 1031 [x.dv,.l (K1 2) (vs.map AVar.dv) tv,.l (K1 2) (es.map AValue.dv) te]=some (qam q):=by
 have hT:=hN.hT
 have hS:=hN.hS
 have e946:=qLx T hT vs es tv te hv
 have e1041:=qJM T hR hV vs es tv te hv
 obtain⟨n,e399,e859,hn0⟩:=qLd T hN x hx hc;generalize hEE:DV.l (K1 2) (es.map AValue.dv) te=E at *
 generalize hVV:DV.l (K1 2) (vs.map AVar.dv) tv=V at *
 by_cases h:n=0
 ·subst h;have hRT:=hn0 rfl
  obtain⟨p,e400,e860⟩:=qLe T hS hT hA vs tv hv _ x (Nat.lt_succ_self _) hx hRT;rw[hVV]at e400 e860;by_cases hp:p.2=0
  ·obtain⟨p1,p2⟩:=p;simp only at hp;subst hp;unfold two at e400 e860;have e387:T.val 387 [x.dv,V]=some (.t [.d (I p1),.d (I 0)],false):=by
    rw[qab T (hT 387 qhB rfl) rfl];simp[qhB,Fr.ofArgs,e399,e400]
   have e769:T.val 769 [x.dv,V]=some (.t [.d (I p1),.d (I 0)],false):=by
    rw[qab T (hS 769 qhD rfl) rfl];simp[qhD,Fr.ofArgs,e859,e860]
   cases hb:evB vs es with
   |true =>
    rw[hb]at e946 e1041;obtain⟨p',h400,hq⟩:=qJo T hT hA hR hV hS vs es tv te hv (quT vs es hi hb) _ x (Nat.lt_succ_self _) hx hRT;rw[hVV]at h400 hq;rw[hEE]at hq;have hp':p'.2=0:=by
     rw[e400]at h400;unfold two at h400;injection h400 with h;injection h with h _;injection h with h;injection h with _ h;injection h with h _;injection h with h;injection h with _ h
     exact h.symm
    obtain⟨⟨v,f⟩,e947,e1042,-⟩:=hq hp';refine⟨(v,f),?_,?_⟩
    ·unfold qam at e947⊢;rw[qab T (hT 916 qgK rfl) rfl];simp[qgK,Fr.ofArgs,h945,e387,e946,e947]
    ·unfold qam at e1042⊢;rw[qab T (hR 1031 qgH rfl) rfl];simp[qgH,Fr.ofArgs,h1040,e769,e1041,e1042]
   |false =>
    rw[hb]at e946 e1041;refine⟨(⟨0,0⟩,1),?_,?_⟩
    ·unfold qam;rw[qab T (hT 916 qgK rfl) rfl];simp[qgK,Fr.ofArgs,h945,e387,e946,↓qaA,↓qaC,mkA,qal,AValue.dv]
    ·unfold qam;rw[qab T (hR 1031 qgH rfl) rfl];simp[qgH,Fr.ofArgs,h1040,e769,e1041,↓qaA,↓qaC,mkA,qal,AValue.dv]
  ·have g:=qac hp
   unfold two at e400 e860;have e387:T.val 387 [x.dv,V]=some (.t [.d (I p.1),.d (I p.2)],false):=by
    rw[qab T (hT 387 qhB rfl) rfl];simp[qhB,Fr.ofArgs,e399,e400]
   have e769:T.val 769 [x.dv,V]=some (.t [.d (I p.1),.d (I p.2)],false):=by
    rw[qab T (hS 769 qhD rfl) rfl];simp[qhD,Fr.ofArgs,e859,e860]
   refine⟨(⟨0,0⟩,p.2),?_,?_⟩
   ·unfold qam;rw[qab T (hT 916 qgK rfl) rfl];simp[qgK,Fr.ofArgs,h945,e387,g,bne,↓qaA,↓qaC,mkA,qal,AValue.dv]
   ·unfold qam;rw[qab T (hR 1031 qgH rfl) rfl];simp[qgH,Fr.ofArgs,h1040,e769,g,bne,↓qaA,↓qaC,mkA,qal,AValue.dv]
 ·have g:=qac h
  have e387:T.val 387 [x.dv,V]=some (.t [.d (I 0),.d (I n)],false):=by
   rw[qab T (hT 387 qhB rfl) rfl];simp[qhB,Fr.ofArgs,e399,g,bne]
  have e769:T.val 769 [x.dv,V]=some (.t [.d (I 0),.d (I n)],false):=by
   rw[qab T (hS 769 qhD rfl) rfl];simp[qhD,Fr.ofArgs,e859,g,bne]
  refine⟨(⟨0,0⟩,n),?_,?_⟩
  ·unfold qam;rw[qab T (hT 916 qgK rfl) rfl];simp[qgK,Fr.ofArgs,h945,e387,g,bne,↓qaA,↓qaC,mkA,qal,AValue.dv]
  ·unfold qam;rw[qab T (hR 1031 qgH rfl) rfl];simp[qgH,Fr.ofArgs,h1040,e769,g,bne,↓qaA,↓qaC,mkA,qal,AValue.dv]
def qjK(f:AFee)(E:DV):DV:=.a [.s f.Name,I f.Event,I f.When.Op,I f.When.N,.s f.When.S,.l (K1 4) f.When.Args.l f.When.Args.t,I f.Amount.Op,I f.Amount.N,.s f.Amount.S,.l (K1 4) f.Amount.Args.l f.Amount.Args.t,E]
@[simp] theorem qMh(f:AFee)(E:DV):Sim.fits (K1 11) (.d (qjK f E))=true:=rfl
@[simp] theorem qMk(f:AFee)(E:DV)(H:Heap):Sim.purT H (.d (qjK f E))=some (.d (qjK f E),false):=rfl
@[simp] theorem qMg(f:AFee)(E:DV):(qjK f E).cells.length=11:=rfl
@[simp] theorem qMi(f:AFee)(E:DV):((qjK f E).cells.drop 2).take 4=AExpr.cells f.When:=rfl
@[simp] theorem qMj(f:AFee)(E:DV):((qjK f E).cells.drop 6).take 4=AExpr.cells f.Amount:=rfl
@[simp] theorem qMf(f:AFee)(E:DV):(qjK f E).cells[10]? = some E:=rfl
theorem qH7{b:ABooks}{id day:Int}{p:AProduct}(hp:qb1 b id day=some p):p∈b.Products.l:=by
  unfold qb1 at hp;split at hp
  · exact qt1 hp
  · cases hp
section
structure HEx (T:Tab):Prop where
 hN:HNx T
 hV:HV T
 hA:HA T
 hR:HR T
 vars:∃(vs:List AVar) (o o':Bool),T.val 371 []=some (.d (.l (K1 2) (vs.map AVar.dv) false),o)∧T.val 678 []=some (.d (.l (K1 2) (vs.map AVar.dv) false),o')∧vs.length≤1000∧T.val 945 [.l (K1 2) (vs.map AVar.dv) false]=some (.d (I 0),false)∧T.val 1040 [.l (K1 2) (vs.map AVar.dv) false]=some (.d (I 0),false)
theorem HEx.ev{T:Tab}(h:HEx T):HEv T:=by
 obtain⟨hN,hV,hA,hR,vs,o,o',e1,e2,e3,e4,e5⟩:=h;exact⟨hN.hT,hN.hU,hV,hN.hC,hN.hW,hA,vs,false,o,e1,e3,e4⟩
theorem qJn(T:Tab)(h:HEx T)(x:AExpr)(hx:x.ok)(hc:qap x.dv 100≤100)(b:ABooks)(id day amount:Int)(te:Bool):∃(V:DV) (o o':Bool) (q:AValue×Int),T.val 371 []=some (.d V,o)∧T.val 678 []=some (.d V,o')∧T.val 916 [x.dv,V,.l (K1 2) ((qbg b id day amount).1.map V2) te]=some (qam q)∧T.val 1031 [x.dv,V,.l (K1 2) ((qbg b id day amount).1.map V2) te]=some (qam q):=by
 obtain⟨hN,hV,hA,hR,vs,o,o',e1,e2,hn,e4,e5⟩:=h;have hm:(qbg b id day amount).1.map V2=((qbg b id day amount).1.map fun p=>(⟨p.1,p.2⟩:AValue)).map AValue.dv:=by rw[List.map_map];rfl
 obtain⟨q,h1,h2⟩:=qJE T hN hA hR hV vs ((qbg b id day amount).1.map fun p=>(⟨p.1,p.2⟩:AValue)) false te hn (fun e he=>by
  obtain⟨p,hp,rfl⟩:=List.mem_map.1 he;exact qAr b id day amount p hp) e4 e5 x hx hc
 exact⟨_,o,o',q,e1,e2,by rw[hm];exact h1,by rw[hm];exact h2⟩
attribute [local simp ↓ 2000] qvK
attribute [local simp] qkn
end
end
theorem qAP{b:ABooks}(hg:qgX b=false):(∀p∈b.Products.l,p.Fees.l.length≤1000∧(∀f∈p.Fees.l,qap f.When.dv 100≤100∧qap f.Amount.dv 100≤100)∧∀f∈p.Rules.l,qap f.Amount.dv 100≤100)∧b.Products.l.length≤1000:=by
 have hg':=hg
 simp only[qgX,zzD,zzE]at hg';refine⟨fun p hp => ?_,by omega⟩
 have h1:b.Products.l.any qfz=false:=by
  rcases hb:b.Products.l.any qfz with _|_
  ·rfl
  ·exfalso;simp[qgX,hb]at hg
 have h2:qfz p=false:=by
  have:=List.any_eq_false.1 h1 p hp
  simpa using this
 simp only[qfz,zzD,zzE]at h2;refine⟨by omega,fun f hf => ?_,fun f hf => ?_⟩
 ·have h3:qgy f=false:=by
   have:=List.any_eq_false.1 h2.1.2 f hf
   simpa using this
  simp only[qgy,grX,zzD,zzE]at h3;omega
 ·have h3:qgz f=false:=by
   have:=List.any_eq_false.1 h2.2 f hf
   simpa using this
  simp only[qgz,grX,zzD,zzE]at h3;omega
end
noncomputable def tabL25:PT :=
 (.bin 1021 F1021 (.bin 1019 qgG (.bin 1017 F1017 .nil .nil) .nil) (.bin 1086 qi1 (.bin 1024 F1024 .nil .nil) .nil))
def H11(T:Tab):Prop:=∀n F,tabL25.get n=some F→T.F n=some F
end Go.Sim
