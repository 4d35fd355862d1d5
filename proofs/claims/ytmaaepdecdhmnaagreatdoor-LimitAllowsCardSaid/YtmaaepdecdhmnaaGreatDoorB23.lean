/- Part 23 of the proof. -/
import Derived.Test.YtmaaepdecdhmnaaGreatDoorB21
import Derived.Test.YtmaaepdecdhmnaaGreatDoorB22
import Derived.Test.YtmaaepdecdhmnaaGreatDoorB13
import Derived.Test.YtmaaepdecdhmnaaGreatDoorB6
import Derived.Test.YtmaaepdecdhmnaaGreatDoorB7
import Derived.Test.YtmaaepdecdhmnaaGreatDoorB8
import Derived.Test.YtmaaepdecdhmnaaGreatDoorB9
import Derived.Test.YtmaaepdecdhmnaaGreatDoorB2
import Derived.Test.YtmaaepdecdhmnaaGreatDoorB12
import Derived.Test.YtmaaepdecdhmnaaGreatDoorB11
namespace Go.Sim
set_option maxRecDepth 100000
set_option maxHeartbeats 8000000
section
attribute [local simp ↓] qdZ qdX qdP qdY qdM qdQ qdN qdO sqK blK lpK qd4 qd2 qd0 qd3 qd1 qdI qdK qeu qdo qdm qdn qdr qcS qcT qcD qcG qcR qcV qcF qcW qcL qcN qcO qcP qcU qcQ qcE qcH qcj qcI qcM qdk qdh qcY qcX qc6 qcZ qbu qbC qc0 qc1 qd6 qcu qd5 qes qcz qdc qdd qc7 qc9 qc8 qcl qdl qcn qc3 qdg qdb qda qc5 qc4 qdf qdi qc2 qde qdJ qck qcy qdz qcw qbR qdA qco qcp qdj qbV qer qcJ qdp qdq qd8 qet qd7 qdR qdS qdT qdU qdV qdW qcK qdy qew qeP qeQ qeN qeO qeM qev qeT qeR qfn qeS qfs qfJ qcm
attribute [local simp] qbO qd9 qea qdE qdF qds qdt qep qeq qdB qdC rd IOp.adds qaq gh nid rgK rdS qdG qdH qeb qec qeg qeh qek qef qej qei qcC qcA qcB qee qed qdx qdw qem qel qen qeo qeC qeB qeE qeD qeH qeA qeI qfq qfj qfp qfo
def dOf(frm v:Int):Nat:=(max frm v-frm).toNat
def fDa(frm upto:Int)(es:List Int)(e:AEntry)(x:ALeg):List Int:=if e.Value≤upto then (match es[dOf frm e.Value]? with|some v=>es.set (dOf frm e.Value) (w64 (v-x.Amount))|none=>es)else es
theorem qqO{frm upto:Int}{es:List Int}{e:AEntry}{x:ALeg}:(fDa frm upto es e x).length=es.length:=by
 unfold fDa;split
 ·split
  ·simp
  ·rfl
 ·rfl
def qgA(frm upto:Int)(j:List AEntry)(t:Bool)(acc:Int)(n:Nat)(es:List Int):Heap:=[some (.box K0 (.d (I frm))),some (.box K0 (.d (I upto))),some (.sl K0 0 (es.map I)),some (.box K0 (.r 2 K0 0 n false)),some (.box K0 (.d (.l (K1 10) (j.map AEntry.dv) t))),some (.box K0 (.d (I acc))),some (.lp 0 none),some .df]
theorem qIt(T:Tab)(hT:HU T)(j:List AEntry)(t:Bool)(acc frm upto:Int)(n:Nat)(es:List DV):T.ref 50 [.d (.l (K1 10) (j.map AEntry.dv) t),.d (I acc)] [some (.box K0 (.d (I frm))),some (.box K0 (.d (I upto))),some (.sl K0 0 es),some (.box K0 (.r 2 K0 0 n false))]=some (.f 59 [.p 4 0 0,.p 5 0 0],[some (.box K0 (.d (I frm))),some (.box K0 (.d (I upto))),some (.sl K0 0 es),some (.box K0 (.r 2 K0 0 n false)),some (.box K0 (.d (.l (K1 10) (j.map AEntry.dv) t))),some (.box K0 (.d (I acc)))]):=by
 rw[qeJ T (hT 50 F50 rfl) rfl];simp[F50,Fr.ofArgs,qbQ,gcV,qaf,qad,qai,Obj.refs,PV.refs,PV.refsL,qaj,gcH,PV.ren,PV.renL,Obj.ren,Heap.obj,zzd]
theorem qDS(T:Tab)(_hT:HU T)(frm upto:Int)(j:List AEntry)(t:Bool)(acc:Int)(n:Nat)(h1:qbh frm=true)(h2:qbh upto=true)(h3:frm≤upto)(hn:(n:Int)=upto-frm+1):MvY (qiN T.env qnr qns [(9,.p 3 0 0),(7,.p 1 0 0),(6,.p 0 0 0)] 6 [40,41]) (List Int) (qgA frm upto j t acc n) 8 6 4 5 j t acc (fun es=>es.length=n) (fDa frm upto) where
 len _:=rfl
 cl _:=by intro r h;simp[qgA,qad,qai,Obj.refs,PV.refs]at h;subst h;simp[qgA]
 oj _ _:=rfl
 oa _ _:=rfl
 lo:=⟨by decide,by decide,by decide⟩
 hp _ _ _ h _ _:=by rw[qqO];exact h
 y es e x hl _ _ _:=by
  simp only[qbh,zzf,zzq]at h1 h2;rw[qs2 rfl rfl];by_cases hv:e.Value≤upto
  ·obtain⟨m,hm⟩:∃m,max frm e.Value=m:=⟨_,rfl⟩;have hm1:frm≤m∧m≤upto:=by omega
   obtain⟨k,hk⟩:∃k,dOf frm e.Value=k:=⟨_,rfl⟩;have hk1:(k:Int)=m-frm:=by rw[←hk,dOf,hm];omega
   have w:IntKind.i64.wrap (m-frm)=(k:Int):=(wrI (by omega) (by omega)).trans hk1.symm
   have hk':(k:Int)<n:=by omega
   have hke:k<es.length:=by omega
   have hg:es[k]? = some es[k]:=zze hke
   have ef:fDa frm upto es e x=es.set k (w64 (es[k]-x.Amount)):=by rw[fDa,if_pos hv,hk,hg]
   rw[ef];simp[qnr,qns,qgA,qgq,hv,w,↓qb8,-qbV,↓qkS,↓qoV,↓qkR,↓qca,hm,hl,hk',hg,↓qcm];have ms:∀v,(es.map I).set k (I v)=(es.set k v).map I:=fun v=>List.map_set.symm
   rw[ms,ms];exact qhf (H:=qgA frm upto j t acc n (es.set k (w64 (es[k]-x.Amount)))++[some (.box (K1 10) (.d e.dv)),some (.box (K1 3) (.d x.dv))]) (by intro r h;simp[qgA,qad,qai,Obj.refs,PV.refs]at h;subst h;simp[qgA]) [some (.box (K1 10) (.d e.dv))] (.b true)
  ·have ef:fDa frm upto es e x=es:=by rw[fDa,if_neg hv]
   rw[ef];simp[qnr,qns,qgA,qgq,hv];exact qhf (H:=qgA frm upto j t acc n es++[some (.box (K1 10) (.d e.dv)),some (.box (K1 3) (.d x.dv))]) (by intro r h;simp[qgA,qad,qai,Obj.refs,PV.refs]at h;subst h;simp[qgA]) [some (.box (K1 10) (.d e.dv))] (.b true)
theorem qDd(T:Tab)(es:List Int)(n:Nat)(hl:es.length=n)(hn:0<n)(hn2:n<5000)(hz:∀x∈es,w64 x=x){k:KC (PV×Bool)}{fr:Fr}{H:Heap}(h0:gc [9,12] 0 ⟨fr,H⟩=⟨[(100041,.g (.h 0)),(12,.d (I 1)),(9,.p 1 0 0)],[some .df,some (.box K0 (.r 2 K0 0 n false)),some (.sl K0 0 (es.map I))]⟩) :
  kC T.env 0 fr H (.h (.loop [9,12] qnt,k))=k (.exit 2) [(100041,.g (.h 0)),(61,.d (.b false)),(12,.d (I n)),(9,.p 1 0 0)] [some .df,some (.box K0 (.r 2 K0 0 n false)),some (.sl K0 0 ((qbr 0 es).map I))]:=by
 refine qf1 (fun s:Nat×List Int=>⟨[(100041,.g (.h 0)),(12,.d (I s.1)),(9,.p 1 0 0)],[some .df,some (.box K0 (.r 2 K0 0 n false)),some (.sl K0 0 (s.2.map I))]⟩) (fun i=>(i+1,psP 0 (i+1) es)) (n-1) ?_ ?_ (by rw[h0,qIa _ hz];rfl)
 ·intro B _;have e:n-1+1=n:=by omega
  have e2:psP 0 n es=qbr 0 es:=qxe _ _ _ (by omega)
  have e3:(qbr 0 es).length=n:=by rw[qoH,hl]
  simp only[e,e2];simp[qnt,e3]
 ·intro B _ i hi c hc;have hlen:(psP 0 (i+1) es).length=n:=by rw[qoG,hl]
  have hst:=qxf es 0 i (by omega)
  obtain⟨fs,hfs⟩:∃fs,psP 0 (i+1) es=fs:=⟨_,rfl⟩;have g5':i+1<fs.length:=by rw[←hfs];omega
  have hst':psP 0 (i+1+1) es=fs.set (i+1) (w64 (fs[i+1]+fs[i])):=by subst hfs;exact hst.symm
  simp only[hfs]at hlen;clear hst
  simp only[hst']at hc;simp only[hfs];have g1:(i:Int)+1<n:=by omega
  have g2:i+1<n:=by omega
  have g3:i<n:=by omega
  have g4:(i:Int)<n:=by omega
  have g5:i+1<fs.length:=by omega
  have g6:i<fs.length:=by omega
  have g7:(0:Int)≤(i:Int)+1:=by omega
  have g8:((i:Int)+1).toNat=i+1:=by omega
  have w1:IntKind.i64.wrap ((i:Int)+1-1)=i:=by rw[wrI (by omega) (by omega)];omega
  have w1':IntKind.i64.wrap (i:Int)=i:=wrI (by omega) (by omega)
  have w2:IntKind.i64.wrap ((i:Int)+1+1)=(i:Int)+1+1:=wrI (by omega) (by omega)
  simp[qnt,↓qbJ,↓qbT,↓qbx,↓qeG,↓qbt,qby,↓qbw,↓qbv,↓qey,↓qbz,↓qbX,qbe,writeS,touchS,qaD,qa4,chg,qbm,qbb,qaY,qbc,PV.refs,IOp.okD,Nat.testBit,hlen,g1,g2,g3,g4,g7,w1',w2,↓qb8,-qbV,↓qkS,↓qkR,↓qca];refine hc _ _ ?_;rw[show ∀v,(fs.map I).set (i+1) (DV.i .i64 v)=(fs.set (i+1) v).map I from fun v=>List.map_set.symm]
  simp[gc,Fr.keep,qaf,qae,qad,PV.refs,qaj,gcH,qai,Obj.refs,PV.ren,Obj.ren,Heap.obj,Fr.ren,gh,zzd,w64]
def qhq(frm upto:Int):Bool:=qbh frm&&(qbh upto&&(decide (frm≤upto)&&decide (upto-frm<4000)))
def zer(frm upto:Int):List Int:=List.replicate (upto-frm+1).toNat 0
def qjq(j:List AEntry)(acc frm upto:Int):List Int:=if qhq frm upto=true then qbr 0 (qag (mvE acc (fDa frm upto)) 0 (zer frm upto) j)else []
theorem qAv{frm upto:Int}{es:List Int}{e:AEntry}{x:ALeg}(h:∀y∈es,w64 y=y):∀y∈fDa frm upto es e x,w64 y=y:=by
 intro y hy;unfold fDa at hy;split at hy
 ·split at hy
  ·rcases List.mem_or_eq_of_mem_set hy with hy|rfl
   ·exact h y hy
   ·exact qkY _
  ·exact h y hy
 ·exact h y hy
theorem qoy{acc frm upto:Int}(P:List Int→Prop)(hP:∀es e x,P es→P (fDa frm upto es e x)):∀(j:List AEntry) (i:Nat) (es:List Int),P es→P (qag (mvE acc (fDa frm upto)) i es j)
 | [],_,_,h=>h
 |e::j,i,es,h=>by
  rw[qag];refine qoy P hP j _ _ ?_;have:∀(l:List ALeg) (i:Nat) (es:List Int),P es→P (qag (mvL acc (fDa frm upto) e) i es l):=by
   intro l;induction l with
   |nil=>intro _ _ h;exact h
   |cons x l ih =>
    intro i es h;rw[qag];refine ih _ _ ?_;unfold mvL;split
    ·exact hP _ _ _ h
    ·exact h
  exact this _ _ _ h
theorem qLi(T:Tab)(hT:HU T)(hV:HV T)(j:List AEntry)(t:Bool)(acc frm upto:Int)(hn:j.length≤maxLen)(ho:∀e∈j,e.Legs.l.length≤maxLen):T.val 880 [.l (K1 10) (j.map AEntry.dv) t,I acc,I frm,I upto]=some (.d (.l K0 ((qjq j acc frm upto).map I) false),true):=by
 rw[qab T (hV 880 qj7 rfl) rfl];have e1:=qo0 T hV frm
 have e2:=qo0 T hV upto
 by_cases hok:qhq frm upto=true
 ·have hd:qjq j acc frm upto=qbr 0 (qag (mvE acc (fDa frm upto)) 0 (zer frm upto) j):=by rw[qjq,if_pos hok]
  rw[hd];simp only[qhq,zzf,zzq]at hok;obtain⟨h1,h2,h3,h4⟩:=hok;rw[h1]at e1;rw[h2]at e2;obtain⟨h1a,h1b⟩:0≤frm∧frm≤73048:=by simpa[qbh]using h1
  obtain⟨h2a,h2b⟩:0≤upto∧upto≤73048:=by simpa[qbh]using h2
  obtain⟨n,hnn⟩:∃n:Nat,(n:Int)=upto-frm+1:=⟨(upto-frm+1).toNat,by omega⟩
  have w1:IntKind.i64.wrap (upto-frm)=upto-frm:=wrI (by omega) (by omega)
  have w2:IntKind.i64.wrap (upto-frm+1)=(n:Int):=by rw[wrI (by omega) (by omega)];omega
  have g1:¬upto<frm:=by omega
  have g2:¬(4000≤upto-frm):=by omega
  have g3:(n:Int)*8≤140737488355328:=by omega
  have hz:(upto-frm+1).toNat=n:=by omega
  have e3:=qIt T hT j t acc frm upto n (List.replicate n (I 0))
  have e4:=qrc T hT (qDS T hT frm upto j t acc n h1 h2 h3 hnn) hn ho (List.replicate n 0) (by simp)
  have hS:zer frm upto=List.replicate n 0:=by rw[zer,hz]
  rw[hS];have hlen:(qag (mvE acc (fDa frm upto)) 0 (List.replicate n 0) j).length=n:=qoy (fun es=>es.length=n) (fun es e x h=>by rw[qqO];exact h) j 0 _ (by simp)
  have hnr:∀y∈qag (mvE acc (fDa frm upto)) 0 (List.replicate n 0) j,w64 y=y:=qoy (fun es=>∀y∈es,w64 y=y) (fun es e x h=>qAv h) j 0 _ (fun y hy=>by rw[(List.mem_replicate.1 hy).2];rfl)
  generalize qag (mvE acc (fDa frm upto)) 0 (List.replicate n 0) j=fs at *
  have lp:=fun k fr H => @qDd T fs n hlen (by omega) (by omega) hnr k fr H
  have hpl:(qbr 0 fs).length=n:=by rw[qoH,hlen]
  simp[qj7,Fr.ofArgs,e1,e2,w1,w2,g1,g2,g3,qt5,qqh,qAB,e3,↓qrd,↓qs3,qqD,Fr.only];simp only[qgA,List.map_replicate]at e4;refine (congrArg (fun z=>bo z _) e4).trans ?_
  simp[qkN];refine (lp _ _ _ (by simp[gc,Fr.keep,qaf,qae,qad,PV.refs,qaj,gcH,qai,Obj.refs,PV.ren,Obj.ren,Heap.obj,Fr.ren,gh,zzd])).trans ?_
  have ht:((qbr 0 fs).map I).take n=(qbr 0 fs).map I:=zzv (by simp[hpl])
  simp[fin,runG,hpl,ht]
 ·have hd:qjq j acc frm upto=[]:=by rw[qjq,if_neg hok]
  rw[hd];simp only[qhq,zzf,zzq]at hok;have w1:qbh frm=true→qbh upto=true→IntKind.i64.wrap (upto-frm)=upto-frm:=by
   intro a b;simp[qbh]at a b;exact wrI (by omega) (by omega)
  obtain⟨a,ha⟩:∃a,qbh frm=a:=⟨_,rfl⟩;obtain⟨b,hb⟩:∃b,qbh upto=b:=⟨_,rfl⟩;rw[ha]at e1 hok w1;rw[hb]at e2 hok w1;cases a<;>cases b<;>simp only[forall_const,zzg,false_imp_iff]at w1
  all_goals simp[qj7,Fr.ofArgs,e1,e2]
  repeat' (refine qat (fun h => ?_) (fun h => ?_)<;>(try simp at h)<;>(try simp[h,w1]))
  all_goals (simp at hok;omega)
def fDR(acc frm:Int)(_:Nat)(es:List Int)(e:AEntry):List Int:=qbn (dOf frm e.Value) (qhn acc e) es
def dly(j:List AEntry)(acc frm upto:Int):List Int:=if qhq frm upto=true then qag (fDR acc frm) 0 (zer frm upto) j else []
theorem qCt(T:Tab)(j:List AEntry)(t:Bool)(acc frm upto v n:Int)(oi N:Nat)(es:List Int)(hl:es.length=N)(hN:(N:Int)=upto-frm+1)(h1:0≤frm)(h2:upto≤73048){k:KC (PV×Bool)}{fr:Fr}{H:Heap}{r:Option (PV×Bool)}
  (hr:∀d b,k (.exit 2) [(60,.d (.b b)),(12,.d (I d)),(11,.d (I n)),(10,.d (I oi)),(9,.r 0 K0 0 N false),(3,.d (I upto)),(2,.d (I frm)),(1,.d (I acc)),(0,.d (.l (K1 10) (j.map AEntry.dv) t))] [some (.sl K0 0 ((if n=0 then es else qbn (dOf frm v) n es).map I))]=r)
  (h0:gc [0,1,2,3,9,10,11,12] 0 ⟨fr,H⟩=⟨[(12,.d (I (max frm v))),(11,.d (I n)),(10,.d (I oi)),(9,.r 0 K0 0 N false),(3,.d (I upto)),(2,.d (I frm)),(1,.d (I acc)),(0,.d (.l (K1 10) (j.map AEntry.dv) t))],[some (.sl K0 0 (es.map I))]⟩) :
  kC T.env 0 fr H (.h (.loop [0,1,2,3,9,10,11,12] qlT,k))=r:=by
 obtain⟨m,hm⟩:∃m,max frm v=m:=⟨_,rfl⟩;have hm1:frm≤m:=by omega
 obtain⟨q,hq⟩:∃q:Nat,dOf frm v=q:=⟨_,rfl⟩;have hq1:(q:Int)=m-frm:=by rw[←hq,dOf,hm];omega
 rw[hm]at h0;rw[hq]at hr;by_cases hn:n=0
 ·subst hn;simp only[if_true]at hr;refine qf1 (fun _:Unit=>⟨[(12,.d (I m)),(11,.d (I 0)),(10,.d (I oi)),(9,.r 0 K0 0 N false),(3,.d (I upto)),(2,.d (I frm)),(1,.d (I acc)),(0,.d (.l (K1 10) (j.map AEntry.dv) t))],[some (.sl K0 0 (es.map I))]⟩) (fun _=>()) 0 ?_ ?_ h0
  ·intro B _;by_cases hu:m≤upto
   ·simp[hu,hr]
   ·simp[hu,hr]
  ·intro B _ i hi;exact absurd hi (zzm _)
 ·simp only[if_neg hn]at hr;have hne:(n != 0)=true:=by simpa using hn
  refine qf1 (fun s:Int×List Int=>⟨[(12,.d (I s.1)),(11,.d (I n)),(10,.d (I oi)),(9,.r 0 K0 0 N false),(3,.d (I upto)),(2,.d (I frm)),(1,.d (I acc)),(0,.d (.l (K1 10) (j.map AEntry.dv) t))],[some (.sl K0 0 (s.2.map I))]⟩) (fun i=>(m+i,qcc q i n es)) (N-q) ?_ ?_ (by rw[h0,qnD];simp)
  ·intro B _;have hu:¬m+((N-q:Nat):Int)≤upto:=by omega
   have ha:qcc q (N-q) n es=qbn q n es:=by
    by_cases hle:q≤N
    ·exact qp4 _ _ _ _ (by omega)
    ·rw[show N-q=0 by omega,qnD,qp2 _ _ _ (by omega)]
   simp only[ha];simp[hu,hr]
  ·intro B _ i hi c hc;have hst:=qp5 es q i n (by rw[qje];omega)
   obtain⟨fs,hfs⟩:∃fs,qcc q i n es=fs:=⟨_,rfl⟩;have hlen:fs.length=N:=by rw[←hfs,qje,hl]
   have g5:q+i<fs.length:=by omega
   have hst':qcc q (i+1) n es=fs.set (q+i) (w64 (fs[q+i]+n)):=by subst hfs;exact hst.symm
   clear hst
   simp only[hst']at hc;simp only[hfs];have hu:m+(i:Int)≤upto:=by omega
   have w1:IntKind.i64.wrap (m+(i:Int)-frm)=((q+i:Nat):Int):=by rw[wrI (by omega) (by omega)];omega
   have w2:IntKind.i64.wrap (m+(i:Int)+1)=m+(i:Int)+1:=wrI (by omega) (by omega)
   obtain⟨z,hz⟩:∃z,q+i=z:=⟨_,rfl⟩;simp only[hz]at w1 g5 hc;have g6:(z:Int)<N:=by omega
   have g7:z<N:=by omega
   simp[hu,hne,w1,w2,hlen,g6,g7,↓qb8,-qbV,↓qkS,↓qkR,↓qca];refine hc _ _ ?_;rw[show ∀v,(fs.map I).set z (DV.i .i64 v)=(fs.set z v).map I from fun v=>List.map_set.symm]
   simp[gc,Fr.keep,qaf,qae,qad,PV.refs,qaj,gcH,qai,Obj.refs,PV.ren,Obj.ren,Heap.obj,Fr.ren,gh,zzd,w64];try omega
theorem qqN{acc frm:Int}:∀(j:List AEntry) (i:Nat) (es:List Int),(qag (fDR acc frm) i es j).length=es.length
 | [],_,_=>rfl
 |e::j,i,es=>by rw[qag,qqN j];exact qnB _ _ _
theorem qCu(T:Tab)(hU:HU T)(j:List AEntry)(t:Bool)(acc frm upto:Int)(N:Nat)(hN:(N:Int)=upto-frm+1)(h1:0≤frm)(h2:upto≤73048)(hn:j.length≤maxLen)(ho:∀e∈j,e.ok){k:KC (PV×Bool)}{fr:Fr}{H:Heap}
  (h0:gc [0,1,2,3,9,10] 0 ⟨fr,H⟩=⟨[(10,.d (I 0)),(9,.r 0 K0 0 N false),(3,.d (I upto)),(2,.d (I frm)),(1,.d (I acc)),(0,.d (.l (K1 10) (j.map AEntry.dv) t))],[some (.sl K0 0 ((List.replicate N (0:Int)).map I))]⟩) :
  kC T.env 0 fr H (.h (.loop [0,1,2,3,9,10] qni,k))=k (.exit 0) [(38,.d (.b false)),(10,.d (I j.length)),(9,.r 0 K0 0 N false),(3,.d (I upto)),(2,.d (I frm)),(1,.d (I acc)),(0,.d (.l (K1 10) (j.map AEntry.dv) t))] [some (.sl K0 0 ((qag (fDR acc frm) 0 (List.replicate N 0) j).map I))]:=by
 have hm:=mxl
 rw[qa3 j (fun i (es:List Int)=>⟨[(10,.d (I i)),(9,.r 0 K0 0 N false),(3,.d (I upto)),(2,.d (I frm)),(1,.d (I acc)),(0,.d (.l (K1 10) (j.map AEntry.dv) t))],[some (.sl K0 0 (es.map I))]⟩) (fun _ es=>es.length=N∧∀y∈es,w64 y=y) (fun i es x c=>c (fDR acc frm i es x)) (fun es=>k (.exit 0) [(38,.d (.b false)),(10,.d (I j.length)),(9,.r 0 K0 0 N false),(3,.d (I upto)),(2,.d (I frm)),(1,.d (I acc)),(0,.d (.l (K1 10) (j.map AEntry.dv) t))] [some (.sl K0 0 (es.map I))]) ?_ ?_ (b0:=List.replicate N 0) h0 ⟨by simp,fun y hy=>by rw[(List.mem_replicate.1 hy).2];rfl⟩]
 ·rw[qbG (fDR acc frm) _ _ (fun _ _ _ _=>rfl)]
 ·intro B _ es _;simp
 ·intro B _ i es hi hs c hc;obtain⟨hs1,hs2⟩:=hs;have h1':(i:Int)<j.length:=by omega
  have h3:=wr1 (i:=i) (by omega)
  have e:=qyb T hU j[i] acc (ho _ (zzs hi))
  have hq:(if qhn acc j[i]=0 then es else qbn (dOf frm j[i].Value) (qhn acc j[i]) es)=fDR acc frm i es j[i]:=by
   unfold fDR;split
   ·rename_i hz;rw[hz,qnC _ _ hs2]
   ·rfl
  simp[h1',hi,e,↓qcm];refine qCt T j t acc frm upto j[i].Value (qhn acc j[i]) i N es hs1 hN h1 h2 (fun d b => ?_) (by simp[gc,Fr.keep,qaf,qae,qad,PV.refs,qaj,gcH,qai,Obj.refs,PV.ren,Obj.ren,Heap.obj,Fr.ren,gh,zzd])
  rw[hq];simp[h3];exact hc _ _ _ ⟨by rw[fDR,qnB];exact hs1,qp3 _ _ _ hs2⟩ (by simp[gc,Fr.keep,qaf,qae,qad,PV.refs,qaj,gcH,qai,Obj.refs,PV.ren,Obj.ren,Heap.obj,Fr.ren,gh,zzd])
theorem qJJ(T:Tab)(hU:HU T)(hV:HV T)(j:List AEntry)(t:Bool)(acc frm upto:Int)(hn:j.length≤maxLen)(ho:∀e∈j,e.ok):T.val 1037 [.l (K1 10) (j.map AEntry.dv) t,I acc,I frm,I upto]=some (.d (.l K0 ((dly j acc frm upto).map I) false),true):=by
 rw[qab T (hV 1037 F1037 rfl) rfl];by_cases hok:qhq frm upto=true
 ·have hd:dly j acc frm upto=qag (fDR acc frm) 0 (zer frm upto) j:=by rw[dly,if_pos hok]
  rw[hd];simp only[qhq,qbh,zzf,zzq]at hok;obtain⟨⟨h1a,h1b⟩,⟨h2a,h2b⟩,h3,h4⟩:=hok;obtain⟨n,hnn⟩:∃n:Nat,(n:Int)=upto-frm+1:=⟨(upto-frm+1).toNat,by omega⟩
  have w1:IntKind.i64.wrap (upto-frm)=upto-frm:=wrI (by omega) (by omega)
  have w2:IntKind.i64.wrap (upto-frm+1)=(n:Int):=by rw[wrI (by omega) (by omega)];omega
  have g0:¬frm<0:=by omega
  have g0':¬73048<upto:=by omega
  have g1:¬upto<frm:=by omega
  have g2:¬(4000≤upto-frm):=by omega
  have g3:(n:Int)*8≤140737488355328:=by omega
  have hz:(upto-frm+1).toNat=n:=by omega
  have hS:zer frm upto=List.replicate n 0:=by rw[zer,hz]
  rw[hS];have lp:=fun k fr H => @qCu T hU j t acc frm upto n hnn h1a h2b hn ho k fr H
  have hpl:(qag (fDR acc frm) 0 (List.replicate n 0) j).length=n:=by rw[qqN];simp
  have ht:((qag (fDR acc frm) 0 (List.replicate n 0) j).map I).take n=(qag (fDR acc frm) 0 (List.replicate n 0) j).map I:=zzv (by simp[hpl])
  simp[F1037,Fr.ofArgs,w1,w2,g0,g0',g1,g2,g3,qt5,qqh];refine (lp _ _ _ (by simp[gc,Fr.keep,qaf,qae,qad,PV.refs,qaj,gcH,qai,Obj.refs,PV.ren,Obj.ren,Heap.obj,Fr.ren,gh,zzd])).trans ?_
  simp[hpl,ht]
 ·have hd:dly j acc frm upto=[]:=by rw[dly,if_neg hok]
  rw[hd];simp only[qhq,qbh,zzf,zzq]at hok;by_cases ha:0≤frm∧frm≤upto∧upto≤73048
  ·have w1:IntKind.i64.wrap (upto-frm)=upto-frm:=wrI (by omega) (by omega)
   simp[F1037,Fr.ofArgs];repeat' (refine qat (fun h => ?_) (fun h => ?_)<;>(try simp at h)<;>(try simp[h,w1]))
   all_goals omega
  ·simp[F1037,Fr.ofArgs];repeat' (refine qat (fun h => ?_) (fun h => ?_)<;>(try simp at h)<;>(try simp[h]))
   all_goals (exfalso;omega)
theorem qxg:∀(l:List Int) (s:Int),∀y∈qbr s l,w64 y=y
 | [],_,y,h=>by simp[qbr]at h
 |x::l,s,y,h=>by
  simp only[qbr,List.mem_cons]at h;rcases h with rfl|h
  ·exact qkY _
  ·exact qxg l _ y h
theorem qsv(acc frm upto:Int)(e:AEntry)(hv:e.Value≤upto)(N:Nat)(hk:dOf frm e.Value<N):∀(l:List ALeg) (i:Nat) (es:List Int),es.length=N→qbr 0 (qag (mvL acc (fDa frm upto) e) i es l)=qbn (dOf frm e.Value) (qag (qbI acc) i 0 l) (qbr 0 es)
 | [],_,es,h=>by rw[qag,qag,qnC _ _ (qxg _ _)]
 |x::l,i,es,h=>by
  rw[qag,qag];by_cases ha:x.Account=acc
  ·have hke:dOf frm e.Value<es.length:=by omega
   have e1:mvL acc (fDa frm upto) e i es x=es.set (dOf frm e.Value) (w64 (es[dOf frm e.Value] + -x.Amount)):=by
    rw[mvL,if_pos ha,fDa,if_pos hv,zze hke];rfl
   have e2:qbI acc i 0 x=w64 (-x.Amount+0):=by
    rw[qbI,if_pos (by simpa using ha)];congr 1;omega
   rw[e1,qsv acc frm upto e hv N hk l (i+1) _ (by simpa using h),qxh _ _ _ _ hke,qp1,e2,qou]
   rfl
  ·have e1:mvL acc (fDa frm upto) e i es x=es:=by rw[mvL,if_neg ha]
   have e2:qbI acc i 0 x=0:=by rw[qbI,if_neg (by simpa using ha)]
   rw[e1,qsv acc frm upto e hv N hk l (i+1) _ h,e2]
theorem qDU(acc frm upto:Int)(N:Nat)(hN:(N:Int)=upto-frm+1)(h0:frm≤upto)(e:AEntry)(i:Nat)(es:List Int)(h:es.length=N):qbr 0 (mvE acc (fDa frm upto) i es e)=fDR acc frm i (qbr 0 es) e:=by
 unfold mvE fDR qhn;by_cases hv:e.Value≤upto
 ·exact qsv acc frm upto e hv N (by unfold dOf;omega) _ _ _ h
 ·have:∀(l:List ALeg) (i:Nat),qag (mvL acc (fDa frm upto) e) i es l=es:=by
   intro l;induction l with
   |nil=>intro _;rfl
   |cons x l ih =>
    intro i;have e1:mvL acc (fDa frm upto) e i es x=es:=by
     simp[mvL,fDa,hv]
    rw[qag,e1,ih]
  rw[this,qp2 _ _ _ (by rw[qoH,h];unfold dOf;omega)]
theorem quK(acc frm upto:Int)(N:Nat)(hN:(N:Int)=upto-frm+1)(h0:frm≤upto):∀(j:List AEntry) (i:Nat) (es:List Int),es.length=N→qbr 0 (qag (mvE acc (fDa frm upto)) i es j)=qag (fDR acc frm) i (qbr 0 es) j
 | [],_,_,_=>rfl
 |e::j,i,es,h=>by
  have hl:(mvE acc (fDa frm upto) i es e).length=N:=qoy (fun es=>es.length=N) (fun es e x h=>by rw[qqO];exact h) [e] i es h
  rw[qag,qag,quK acc frm upto N hN h0 j (i+1) _ hl,qDU acc frm upto N hN h0 e i es h]
theorem qAg(j:List AEntry)(acc frm upto:Int):qjq j acc frm upto=dly j acc frm upto:=by
 unfold qjq dly;split
 ·rename_i hok;simp only[qhq,qbh,zzf,zzq]at hok;obtain⟨⟨h1a,h1b⟩,⟨h2a,h2b⟩,h3,h4⟩:=hok;rw[quK acc frm upto (upto-frm+1).toNat (by omega) h3 j 0 _ (by simp[zer]),zer,qxj]
 ·rfl
theorem quL(j:List AEntry)(acc frm upto:Int):(dly j acc frm upto).length≤4000:=by
 unfold dly;split
 ·rename_i hok;simp only[qhq,qbh,zzf,zzq]at hok;rw[qqN,zer,List.length_replicate];omega
 ·simp
theorem qLj(T:Tab)(hT:HU T)(hV:HV T)(j:List AEntry)(t:Bool)(acc frm upto:Int)(hn:j.length≤maxLen)(ho:∀e∈j,e.Legs.l.length≤maxLen):T.val 880 [.l (K1 10) (j.map AEntry.dv) t,I acc,I frm,I upto]=some (.d (.l K0 ((dly j acc frm upto).map I) false),true):=by
 rw[qLi T hT hV j t acc frm upto hn ho,qAg]
section
theorem qLo(T:Tab)(hV:HV T)(n:Int):T.val 884 [I n]=some (.d (.a [I 2,I n]),false):=by
 rw[qab T (hV 884 qlK rfl) rfl];simp[qlK,Fr.ofArgs,qaA,qaC,qaB,qay,putAt,mkA,qax]
theorem qLp(T:Tab)(hV:HV T)(n:Int):T.val 885 [I n]=some (.d (.a [I 1,I n]),false):=by
 rw[qab T (hV 885 qlL rfl) rfl];simp[qlL,Fr.ofArgs,qaA,qaC,qaB,qay,putAt,mkA,qax]
def wth(n b:Int):Bool:=decide (-b≤n)&&decide (n≤b)
theorem qtk(T:Tab)(hV:HV T)(n b:Int)(hb:0≤b)(hb2:b<9223372036854775808):T.val 1046 [I n,I b]=some (.d (.b (wth n b)),false):=by
 rw[qab T (hV 1046 qk7 rfl) rfl];have w:IntKind.i64.wrap (-b) = -b:=wrI (by omega) (by omega)
 simp[qk7,Fr.ofArgs,w,wth];repeat' (refine qat (fun h => ?_) (fun h => ?_)<;>(try simp at h)<;>(try simp[h,w]))
 all_goals omega
theorem qJK(T:Tab)(hV:HV T)(n:Int):T.val 1038 [.a [I 2,I n]]=some (.d (.b (wth n 1000000000000)),false):=by
 rw[qab T (hV 1038 qfV rfl) rfl];have e:=qtk T hV n 1000000000000 (by omega) (by omega)
 simp[qfV,Fr.ofArgs,e,qz6]
def V2(p:Int×Int):DV:=.a [I p.1,I p.2]
abbrev MA:Int:=1000000000000
def vm(n:Int):DV:=V2 (2,n)
def qjN(b:ABooks)(a:AAccount)(id day frm:Int)(l:List Int):Nat→Unit→St
 | 0,_=>⟨[(18,.d (I 0)),(17,.d (.l (K1 2) [] true)),(16,.r 0 K0 0 l.length true),(12,.d (I frm)),(10,.p 1 0 0),(4,.p 2 0 0),(2,.d (I day)),(1,.d (I id))],[some (.sl K0 0 (l.map I)),some (.box (K1 7) (.d a.dv)),some (.box (K1 22) (.d b.dv))]⟩
 |i+1,_=>⟨[(18,.d (I ((i:Int)+1))),(17,.r 0 (K1 2) 0 (i+1) false),(16,.r 1 K0 0 l.length true),(12,.d (I frm)),(10,.p 2 0 0),(4,.p 3 0 0),(2,.d (I day)),(1,.d (I id))],[some (.sl (K1 2) 0 ((l.take (i+1)).map vm)),some (.sl K0 0 (l.map I)),some (.box (K1 7) (.d a.dv)),some (.box (K1 22) (.d b.dv))]⟩
theorem qCn(T:Tab)(hV:HV T)(b:ABooks)(a:AAccount)(id day frm:Int)(l:List Int)(hl:l.length<1000)(h1:0<l.length){k:KC (PV×Bool)}{fr:Fr}{H:Heap}{r:Option (PV×Bool)}
  (hr:∀fr H,fr.get 8 = .d (.l (K1 2) [] true)→fr.get 9 = .d (I 6)→qak fr=[]→k .ret fr H=r)
  (h0:gc [1,2,4,10,12,16,17,18] 0 ⟨fr,H⟩=qjN b a id day frm l 0 ()) :
  kC T.env 0 fr H (.h (.loop [1,2,4,10,12,16,17,18] qnf,k))=brn (l.all fun n=>wth n MA) (.h (k (.exit 0) [(70,.d (.b false)),(18,.d (I l.length)),(17,.r 0 (K1 2) 0 l.length false),(16,.r 1 K0 0 l.length true),(12,.d (I frm)),(10,.p 2 0 0),(4,.p 3 0 0),(2,.d (I day)),(1,.d (I id))] [some (.sl (K1 2) 0 (l.map vm)),some (.sl K0 0 (l.map I)),some (.box (K1 7) (.d a.dv)),some (.box (K1 22) (.d b.dv))],r)):=by
 rw[qa3 l (qjN b a id day frm l) (fun _ _=>True) (fun i _ x c=>if wth x MA=true then c ()else r) (fun _=>k (.exit 0) [(70,.d (.b false)),(18,.d (I l.length)),(17,.r 0 (K1 2) 0 l.length false),(16,.r 1 K0 0 l.length true),(12,.d (I frm)),(10,.p 2 0 0),(4,.p 3 0 0),(2,.d (I day)),(1,.d (I id))] [some (.sl (K1 2) 0 (l.map vm)),some (.sl K0 0 (l.map I)),some (.box (K1 7) (.d a.dv)),some (.box (K1 22) (.d b.dv))]) ?_ ?_ h0 trivial]
 ·rw[qmX (fun n=>wth n MA) r]
  ·cases l.all fun n=>wth n MA<;>rfl
  ·exact fun _ _ _ _=>rfl
 ·intro B _ _ _;obtain⟨n,hn⟩:∃n,l.length=n+1:=⟨l.length-1,by omega⟩
  have ht:l.take (n+1)=l:=zzv (by omega)
  have hz:qjN b a id day frm l l.length ()=⟨[(18,.d (I ((n:Int)+1))),(17,.r 0 (K1 2) 0 (n+1) false),(16,.r 1 K0 0 l.length true),(12,.d (I frm)),(10,.p 2 0 0),(4,.p 3 0 0),(2,.d (I day)),(1,.d (I id))],[some (.sl (K1 2) 0 (l.map vm)),some (.sl K0 0 (l.map I)),some (.box (K1 7) (.d a.dv)),some (.box (K1 22) (.d b.dv))]⟩:=by
   rw[hn];simp only[qjN,ht,hn]
  rw[hz];simp[hn]
 ·intro B _ i _ hi _ c hc;have e:=qJK T hV l[i]
  have hv:∀x,DV.a [DV.i .i64 2,DV.i .i64 x]=vm x:=fun _=>rfl
  cases i with
  |zero =>
   have w1:IntKind.i64.wrap 1=1:=rfl
   have hc':=fun fr H=>hc () fr H trivial
   clear hc
   have ht:l.take (0+1)=[l[0]]:=by cases l with
    |nil=>simp at hi
    |cons x r=>rfl
   simp only[qjN,ht]at hc'⊢;simp[↓qb8,e,qaA,qaC,qaB,qay,putAt,mkA,qax,↓qca,hi];refine qat (fun h => ?_) (fun h => ?_)
   ·rw[if_pos h];simp[w1];refine hc' _ _ ?_;simp[gc,Fr.keep,qaf,qae,qad,PV.refs,qaj,gcH,qai,Obj.refs,PV.ren,Obj.ren,Heap.obj,Fr.ren,gh,zzd,vm,V2]
   ·rw[if_neg (by rw[h];decide)]
    simp;exact hr _ _ (by simp[Fr.get]) (by simp[Fr.get]) (by simp[qak,gh])
  |succ i =>
   have w1:IntKind.i64.wrap ((i:Int)+1+1)=(i:Int)+1+1:=wrI (by omega) (by omega)
   have hc':=fun fr H=>hc () fr H trivial
   clear hc
   have ht:(l.take (i+1+1)).map vm=(l.take (i+1)).map vm++[vm l[i+1]]:=by
    rw[zzw hi,List.map_append];rfl
   simp only[qjN,ht]at hc'⊢;have ho:((l.take (i+1)).map vm).length=i+1:=by simp;omega
   generalize (l.take (i+1)).map vm=out at *
   have g1:(0:Int)≤(i:Int)+1:=by omega
   have g2:((i:Int)+1).toNat=i+1:=by omega
   have g3:(i:Int)+1<l.length:=by omega
   have g4:out.take (i+1)=out:=zzv (by omega)
   have g5:(i+1+1)*16≤140737488355328:=by omega
   simp[↓qb8,e,qaA,qaC,qaB,qay,putAt,mkA,qax,↓qca,hi,g1,g3];refine qat (fun h => ?_) (fun h => ?_)
   ·rw[if_pos h];simp[w1,g4,g5,ho];refine hc' _ _ ?_;simp[gc,Fr.keep,qaf,qae,qad,PV.refs,qaj,gcH,qai,Obj.refs,PV.ren,Obj.ren,Heap.obj,Fr.ren,gh,zzd,vm,V2]
   ·rw[if_neg (by rw[h];decide)]
    simp;exact hr _ _ (by simp[Fr.get]) (by simp[Fr.get]) (by simp[qak,gh])
noncomputable def qhI(b:ABooks)(a:AAccount)(id day amount:Int):List Int:=[ofR b.Journal.l id,qgj (dly b.Journal.l id (max (mst day) a.Opened) day),(qhx b.Journal.l id (mst day) day).1,amount]
noncomputable def qbg(b:ABooks)(id day amount:Int):List (Int×Int)×Int:=match qb6 b id with
 |none=>([],11)
 |some a=>if (qbh day&&qg6 b id day)=true then (if ((qhI b a id day amount).all fun n=>wth n MA)=true then ((qhI b a id day amount).map (fun n=>(2,n))++[(1,qhO b.Journal.l id (mst day) day),(1,w64 (day-a.Opened)),(4,day)],0)else ([],6))else ([],16)
attribute [local simp ↓ 2000] qvK
theorem qJD(T:Tab)(hU:HU T)(hV:HV T)(b:ABooks)(id day amount:Int)(hb:b.ok):T.val 1030 [b.dv,I id,I day,I amount]=some (.t [.d (.l (K1 2) ((qbg b id day amount).1.map V2) (qbg b id day amount).1.isEmpty),.d (I (qbg b id day amount).2)],false):=by
 rw[qab T (hV 1030 F1030 rfl) rfl];have e:=qm6 T hU b id hb
 have e1:=qtr T hV day
 have e2:=qyG T hV hU b id day hb
 unfold qbg;cases hf:qb6 b id with
 |none =>
  rw[hf]at e;simp only[Option.getD_none,Option.isSome_none]at e;simp[F1030,Fr.ofArgs,e,qaK,pur,qa9]
 |some a =>
  rw[hf]at e;simp only[zzA,zzN]at e;obtain⟨v,hv⟩:∃v,qbh day=v:=⟨_,rfl⟩;obtain⟨q,hq⟩:∃q,qg6 b id day=q:=⟨_,rfl⟩;rw[hv]at e1;rw[hq]at e2;simp only[hv,hq];cases v with
  |false=>simp[F1030,Fr.ofArgs,e,e1,qaK,pur,qa9]
  |true =>
   cases q with
   |false=>simp[F1030,Fr.ofArgs,e,e1,e2,qaK,pur,qa9]
   |true =>
    have hj:=(hb.2.2.2.2.2.2.1)
    have ho:∀e∈b.Journal.l,e.Legs.l.length≤maxLen:=fun e he=>((hj.2 e he).2.2.2.2.2.2.2.2.1).1
    have e3:=qya T hV day hv
    have e4:=qJH T hV b.Journal.l b.Journal.t id (mst day) day hj.1 ho
    have e5:=qJJ T hU hV b.Journal.l b.Journal.t id (max (mst day) a.Opened) day hj.1 hj.2
    have e6:=qJI T hV (dly b.Journal.l id (max (mst day) a.Opened) day) false (by have:=quL b.Journal.l id (max (mst day) a.Opened) day;have:maxLen=9223372036854775807:=rfl;omega)
    have e7:=qx9 T hU b.Journal.l b.Journal.t id hj.1 hj.2
    have e8:=qJL T hV b.Journal.l b.Journal.t id (mst day) day hj.1 hj.2
    obtain⟨am,ham⟩:∃l,qhI b a id day amount=l:=⟨_,rfl⟩;obtain⟨ok,hok⟩:∃q,(am.all fun n=>wth n MA)=q:=⟨_,rfl⟩
    have hl:am.length=4:=by rw[←ham];rfl
    have lp:=fun k r fr H => @qCn T hV b a id day (mst day) am (by omega) (by omega) k fr H r
    simp only[hok]at lp;simp only[ham,hok];simp[F1030,Fr.ofArgs,e,e1,e2,e3,e4,e5,e6,e7,↓qcm,qhJ,qhM,qhL];refine (lp _ (some (.t [.d (.l (K1 2) [] true),.d (I 6)],false)) _ _ ?_ ?_).trans ?_
    ·intro fr H h8 h9 hg;simp[h8,h9,hg,qbR,qaK,pur,qa9]
    ·simp[gc,Fr.keep,qaf,qae,qad,PV.refs,qaj,gcH,qai,Obj.refs,PV.ren,Obj.ren,Heap.obj,Fr.ren,gh,zzd,qjN,←ham,qhI]
    ·refine qat (fun h => ?_) (fun h => ?_)
     ·subst h;have hl2:(am.map vm).length=4:=by simp[hl]
      have hvm:am.map vm=(am.map fun n=>(2,n)).map V2:=by simp[vm,Function.comp_def]
      have ht:(am.map vm).take 4=am.map vm:=zzv (by omega)
      simp[hl,hl2,ht,e8,↓qbJ,↓qbx,↓qbt,qby,↓qbw,↓qcq,↓qcr,↓qbv,↓qbz,↓qbD,↓qex,qbe,writeS,touchS,qaD,qa4,chg,qbm,qbb,qaY,qbc,PV.refs,IOp.okD,Nat.testBit,qkn,qaA,qaC,qaB,qay,putAt,mkA,qax,qhJ,qhM,qhL,qaK,pur,qa9];rw[zzv (by simp[hl])]
      simp[V2,vm,w64,Function.comp_def]
     ·subst h;simp
theorem qC8(T:Tab)(a:AAccount)(day amount _frm now low vol cnt:Int)(l:List Int)(hn:l.length≤maxLen){k:KC (PV×Bool)}{r:Option (PV×Bool)}{fr:Fr}{H:Heap}
  (hr:∀fr H,fr.get 8 = .d (.l (K1 2) [] true)→fr.get 9 = .d (I 6)→qak fr=[]→k .ret fr H=r)
  (h0:gc [2,3,10,13,14,16,18,103,104,105] 0 ⟨fr,H⟩=⟨[(105,.d (I 0)),(104,.d (I l.length)),(103,.r 0 K0 0 l.length true),(18,.d (I cnt)),(16,.d (I vol)),(14,.d (I low)),(13,.d (I now)),(10,.p 1 0 0),(3,.d (I amount)),(2,.d (I day))],[some (.sl K0 0 (l.map I)),some (.box (K1 7) (.d a.dv))]⟩) :
  kC T.env 0 fr H (.h (.loop [2,3,10,13,14,16,18,103,104,105] qpQ,k))=brn (l.all fun n=>wth n MA) (.h (k (.exit 3) [(106,.d (.b false)),(105,.d (I l.length)),(104,.d (I l.length)),(103,.r 0 K0 0 l.length true),(18,.d (I cnt)),(16,.d (I vol)),(14,.d (I low)),(13,.d (I now)),(10,.p 1 0 0),(3,.d (I amount)),(2,.d (I day))] [some (.sl K0 0 (l.map I)),some (.box (K1 7) (.d a.dv))],r)):=by
 have hm:=mxl
 rw[qa3 l (fun i _=>⟨[(105,.d (I i)),(104,.d (I l.length)),(103,.r 0 K0 0 l.length true),(18,.d (I cnt)),(16,.d (I vol)),(14,.d (I low)),(13,.d (I now)),(10,.p 1 0 0),(3,.d (I amount)),(2,.d (I day))],[some (.sl K0 0 (l.map I)),some (.box (K1 7) (.d a.dv))]⟩) (fun _ _=>True) (fun i _ x c=>if wth x MA=true then c ()else r) (fun _=>k (.exit 3) [(106,.d (.b false)),(105,.d (I l.length)),(104,.d (I l.length)),(103,.r 0 K0 0 l.length true),(18,.d (I cnt)),(16,.d (I vol)),(14,.d (I low)),(13,.d (I now)),(10,.p 1 0 0),(3,.d (I amount)),(2,.d (I day))] [some (.sl K0 0 (l.map I)),some (.box (K1 7) (.d a.dv))]) ?_ ?_ h0 trivial]
 ·rw[qmX (fun n=>wth n MA) r]
  ·cases l.all fun n=>wth n MA<;>rfl
  ·exact fun _ _ _ _=>rfl
 ·intro B _ _ _;simp
 ·intro B _ i _ hi _ c hc;have h1:(i:Int)<l.length:=by omega
  have h3:=wr1 (i:=i) (by omega)
  have hw:wth l[i] MA=(decide (-1000000000000≤l[i])&&decide (l[i]≤1000000000000)):=rfl
  rw[hw];simp[h1,hi,↓qb8,↓qca];repeat' (refine qat (fun h => ?_) (fun h => ?_)<;>(try simp at h)<;>(try simp[h,h3]))
  all_goals first
   | (rw[if_neg (by simp;omega)];exact hr _ _ (by simp[Fr.get]) (by simp[Fr.get]) (by simp[qak,gh]))
   | (rw[if_pos (by simp;omega)];exact hc () _ _ trivial (by simp[gc,Fr.keep,qaf,qae,qad,PV.refs,PV.refsL,qaj,gcH,qai,Obj.refs,PV.ren,PV.renL,Obj.ren,Heap.obj,Fr.ren,gh,zzd]))
   |exact hr _ _ (by simp[Fr.get]) (by simp[Fr.get]) (by simp[qak,gh])
   |exact hc () _ _ trivial (by simp[gc,Fr.keep,qaf,qae,qad,PV.refs,qaj,gcH,qai,Obj.refs,PV.ren,Obj.ren,Heap.obj,Fr.ren,gh,zzd])
theorem qLa(T:Tab)(hU:HU T)(hV:HV T)(b:ABooks)(id day amount:Int)(hb:b.ok):T.val 801 [b.dv,I id,I day,I amount]=some (.t [.d (.l (K1 2) ((qbg b id day amount).1.map V2) (qbg b id day amount).1.isEmpty),.d (I (qbg b id day amount).2)],false):=by
 rw[qab T (hV 801 F801 rfl) rfl];have e:=qm5 T hU b id hb
 have e1:=qo0 T hV day
 have e2:=qyw T hV hU b id day hb
 unfold qbg;cases hf:qb6 b id with
 |none =>
  rw[hf]at e;simp only[Option.getD_none,Option.isSome_none]at e;simp[F801,Fr.ofArgs,e,qaK,pur,qa9]
 |some a =>
  rw[hf]at e;simp only[zzA,zzN]at e;obtain⟨v,hv⟩:∃v,qbh day=v:=⟨_,rfl⟩;obtain⟨q,hq⟩:∃q,qg6 b id day=q:=⟨_,rfl⟩;rw[hv]at e1;rw[hq]at e2;simp only[hv,hq];cases v with
  |false=>simp[F801,Fr.ofArgs,e,e1,qaK,pur,qa9]
  |true =>
   cases q with
   |false=>simp[F801,Fr.ofArgs,e,e1,e2,qaK,pur,qa9]
   |true =>
    have hj:=(hb.2.2.2.2.2.2.1)
    have ho:∀e∈b.Journal.l,e.Legs.l.length≤maxLen:=fun e he=>((hj.2 e he).2.2.2.2.2.2.2.2.1).1
    have e3:=qyK T hV day hv
    have e4:=qLm T hU hV b.Journal.l b.Journal.t id (mst day) day hj.1 ho
    have e5:=qLj T hU hV b.Journal.l b.Journal.t id (max (mst day) a.Opened) day hj.1 ho
    have e6:∀x r,dly b.Journal.l id (max (mst day) a.Opened) day=x::r→T.val 881 [.l K0 ((x::r).map I) false]=some (.d (I (qgj (x::r))),false):=fun x r h=>qLk T hV x r false (by have:=quL b.Journal.l id (max (mst day) a.Opened) day;rw[h]at this;simp at this;have:maxLen=9223372036854775807:=rfl;omega)
    have e7:=qyH T hU b.Journal.l b.Journal.t id hj.1 ho
    rw[qwX]at e7;have c1:=fun n=>qLo T hV n
    have c2:=fun n=>qLp T hV n
    have lp0:=fun now low vol k fr H => @qC7 T hV a b.Journal.l b.Journal.t id (mst day) day amount now low vol hj.1 hj.2 k fr H
    obtain⟨am,ham⟩:∃l,qhI b a id day amount=l:=⟨_,rfl⟩;obtain⟨ok,hok⟩:∃q,(am.all fun n=>wth n MA)=q:=⟨_,rfl⟩
    have hl:am.length=4:=by rw[←ham];rfl
    have lp:=fun now low vol cnt k r fr H => @qC8 T a day amount (mst day) now low vol cnt am (by rw[hl];decide) k r fr H
    simp only[hok]at lp;simp only[ham,hok];cases hd:dly b.Journal.l id (max (mst day) a.Opened) day with
    |nil =>
     rw[hd]at e5;simp only[List.map_nil]at e5;simp[F801,Fr.ofArgs,e,e1,e2,e3,e4,e5,e7,↓qcm];refine (lp0 (ofR b.Journal.l id) 0 (qhx b.Journal.l id (mst day) day).1 _ _ _ (by simp[gc,Fr.keep,qaf,qae,qad,PV.refs,qaj,gcH,qai,Obj.refs,PV.ren,Obj.ren,Heap.obj,Fr.ren,gh,zzd])).trans ?_
     simp[qhJ,qhM,qhL];refine (lp (ofR b.Journal.l id) 0 (qhx b.Journal.l id (mst day) day).1 (qhO b.Journal.l id (mst day) day) _ (some (.t [.d (.l (K1 2) [] true),.d (I 6)],false)) _ _ ?_ ?_).trans ?_
     ·intro fr H h8 h9 hg;simp[h8,h9,hg,qbR,qaK,pur,qa9]
     ·simp[gc,Fr.keep,qaf,qae,qad,PV.refs,qaj,gcH,qai,Obj.refs,PV.ren,Obj.ren,Heap.obj,Fr.ren,gh,zzd,←ham,qhI,hd,qgj,qhO]
     ·refine qat (fun h => ?_) (fun h => ?_)
      ·subst h;simp[↓qbJ,↓qbT,↓qbx,↓qbt,qby,↓qbw,↓qcq,↓qcr,↓qbv,↓qbz,↓qbD,qbe,writeS,touchS,qaD,qa4,chg,qbm,qbb,qaY,qbc,PV.refs,IOp.okD,Nat.testBit,↓qiw,↓qis,qal,c1,c2,qaA,qaC,qaB,qay,putAt,mkA,qax,qhJ,qhM,qhL,qaK,pur,qa9];simp[←ham,qhI,hd,qgj,V2,w64,qhO]
      ·subst h;simp
    |cons x r =>
     have e6':=e6 x r hd
     rw[hd]at e5;simp only[zzu]at e5 e6';have hpos:(0:Int)<(r.length:Int)+1:=by omega
     simp[F801,Fr.ofArgs,e,e1,e2,e3,e4,e5,e6',e7,↓qcm,hpos];refine (lp0 (ofR b.Journal.l id) (qgj (x::r)) (qhx b.Journal.l id (mst day) day).1 _ _ _ (by simp[gc,Fr.keep,qaf,qae,qad,PV.refs,qaj,gcH,qai,Obj.refs,PV.ren,Obj.ren,Heap.obj,Fr.ren,gh,zzd])).trans ?_
     simp[qhJ,qhM,qhL];refine (lp (ofR b.Journal.l id) (qgj (x::r)) (qhx b.Journal.l id (mst day) day).1 (qhO b.Journal.l id (mst day) day) _ (some (.t [.d (.l (K1 2) [] true),.d (I 6)],false)) _ _ ?_ ?_).trans ?_
     ·intro fr H h8 h9 hg;simp[h8,h9,hg,qbR,qaK,pur,qa9]
     ·simp[gc,Fr.keep,qaf,qae,qad,PV.refs,qaj,gcH,qai,Obj.refs,PV.ren,Obj.ren,Heap.obj,Fr.ren,gh,zzd,←ham,qhI,hd,qgj,qhO]
     ·refine qat (fun h => ?_) (fun h => ?_)
      ·subst h;simp[↓qbJ,↓qbT,↓qbx,↓qbt,qby,↓qbw,↓qcq,↓qcr,↓qbv,↓qbz,↓qbD,qbe,writeS,touchS,qaD,qa4,chg,qbm,qbb,qaY,qbc,PV.refs,IOp.okD,Nat.testBit,↓qiw,↓qis,qal,c1,c2,qaA,qaC,qaB,qay,putAt,mkA,qax,qhJ,qhM,qhL,qaK,pur,qa9];simp[←ham,qhI,hd,qgj,V2,w64,qhO]
      ·subst h;simp
end
theorem qva(id frm upto:Int):∀(l:List AEntry) (i:Nat) (n:Int),(-9223372036854775808≤n∧n<9223372036854775808)→-9223372036854775808≤qag (qez id frm upto) i n l∧qag (qez id frm upto) i n l<9223372036854775808
 | [],_,_,h=>h
 |x::l,i,n,h=>by
  rw[qag];refine qva id frm upto l (i+1) _ ?_;unfold qez;split
  ·exact qm9 _
  ·exact h
theorem qAr(b:ABooks)(id day amount:Int):∀p∈(qbg b id day amount).1,-9223372036854775808≤p.2∧p.2<9223372036854775808:=by
 intro p hp;unfold qbg at hp;split at hp
 ·cases hp
 ·split at hp
  ·split at hp
   ·rename_i a _ hv ha;simp only[zzB,List.mem_map,List.mem_cons,zzC,or_false]at hp;rcases hp with ⟨n,hn,rfl⟩|rfl|rfl|rfl
    ·have:=List.all_eq_true.1 ha n hn
     simp only[wth,MA,zzf,zzq]at this;simp only;omega
    ·exact qva id _ _ _ 0 0 (by decide)
    ·exact qm9 _
    ·have:0≤day∧day≤73048:=by
      simp only[zzf]at hv
      have:=hv.1
      unfold qbh at this;simp only[zzf,zzq]at this;omega
     simp only;omega
   ·cases hp
  ·cases hp
theorem quP{b:ABooks}{id day amount:Int}(h:(qbg b id day amount).2=0):qbh day=true:=by
 unfold qbg at h;split at h
 ·cases h
 ·split at h
  ·rename_i hv;simp only[zzf]at hv;exact hv.1
  ·cases h
theorem qt1{l:List AProduct}{nm:List UInt8}{day:Int}{p:AProduct}(h:atP l nm day=some p):p∈l:=by
 unfold atP at h;split at h
 ·cases h
 ·exact List.mem_of_getElem? h
structure HEv (T:Tab):Prop where
 hT:HT T
 hU:HU T
 hV:HV T
 hC:HC T
 hW:HWd T
 hA:HA T
 vars:∃(vs:List AVar) (t o:Bool),T.val 371 []=some (.d (.l (K1 2) (vs.map AVar.dv) t),o)∧vs.length≤1000∧T.val 945 [.l (K1 2) (vs.map AVar.dv) t]=some (.d (I 0),false)
end
noncomputable def tabF25:PT :=
 (.bin 858 F858 (.bin 768 qib (.bin 674 F674 .nil .nil) .nil) (.bin 948 qlO (.bin 917 qic .nil .nil) .nil))
def HF5(T:Tab):Prop:=∀n F,tabF25.get n=some F→T.F n=some F
noncomputable def tabQ:PT :=
 (.bin 855 qlF (.bin 767 qlD (.bin 724 qnd (.bin 674 F674 .nil .nil) .nil) (.bin 768 qib .nil .nil)) (.bin 857 qhE (.bin 856 qlG .nil .nil) (.bin 917 qic .nil .nil)))
abbrev HQ(T:Tab):Prop:=∀n F,tabQ.get n=some F→T.F n=some F
section
attribute [local simp ↓] qdZ qdX qdP qdY qdM qdQ qdN qdO sqK blK lpK qd4 qd2 qd0 qd3 qd1 qdI qdK qeu qdo qdm qdn qdr qcS qcT qcD qcG qcR qcV qcF qcW qcL qcN qcO qcP qcU qcQ qcE qcH qcj qcI qcM qdk qdh qcY qcX qc6 qcZ qbu qbC qc0 qc1 qd6 qcu qd5 qes qcz qdc qdd qc7 qc9 qc8 qcl qdl qcn qc3 qdg qdb qda qc5 qc4 qdf qdi qc2 qde qdJ qck qcy qdz qcw qbR qdA qco qcp qdj qbV qer qcJ qdp qdq qd8 qet qd7 qdR qdS qdT qdU qdV qdW qcK qdy qew qeP qeQ qeN qeO qeM qev qeT qeR qfn qeS qfs qfJ qcm
attribute [local simp] qbO qd9 qea qdE qdF qds qdt qep qeq qdB qdC rd IOp.adds qaq gh nid rgK rdS qdG qdH qeb qec qeg qeh qek qef qej qei qcC qcA qcB qee qed qdx qdw qem qel qen qeo qeC qeB qeE qeD qeH qeA qeI qfq qfj qfp qfo
def qha(n:Int)(x:ABlock):Bool:=if x.Kind=1 then true else if x.Kind=2 then decide (0<n)else if x.Kind=3 then decide (n<0)else false
theorem qLb(T:Tab)(hU:HU T)(hQ:HQ T)(x:ABlock)(n:Int):T.val 857 [x.dv,I n]=some (.d (.b (qha n x)),false):=by
 rw[qab T (hQ 857 qhE rfl) rfl];have e:=qyJ T hU x
 unfold qmh at e;unfold qha;by_cases h1:x.Kind=1
 ·rw[if_pos h1]at e;simp[qhE,Fr.ofArgs,e,h1]
 ·rw[if_neg h1]at e;by_cases h2:x.Kind=2
  ·rw[if_pos h2]at e;simp[qhE,Fr.ofArgs,e,h2]
  ·rw[if_neg h2]at e;by_cases h3:x.Kind=3
   ·rw[if_pos h3]at e;simp[qhE,Fr.ofArgs,e,h3]
   ·rw[if_neg h3]at e;by_cases h4:x.Kind=4
    ·rw[if_pos h4]at e;simp[qhE,Fr.ofArgs,e,h1,h2,h3]
    ·rw[if_neg h4]at e;simp[qhE,Fr.ofArgs,e,h1,h2,h3]
theorem qIw(T:Tab)(hU:HU T)(hQ:HQ T)(x:ABlock)(n:Int):T.ref 856 [.d x.dv,.p 0 0 0] [some (.box K0 (.d (I n)))]=some (.d (.b (qha n x)),[some (.box K0 (.d (I n)))]):=by
 rw[qeJ T (hQ 856 qlG rfl) rfl];have hH:Cl [some (.box K0 (.d (I n)))]:=fun r h=>by simp[qad,qai,Obj.refs,PV.refs]at h
 have e:=qLb T hU hQ x n
 simp[qlG,Fr.ofArgs,e,qbQ];exact (qhf hH [some (.box (K1 7) (.d x.dv))] _)
theorem qIv{α:Type}(T:Tab)(hQ:HQ T)(g:Nat)(dv:α→DV)(p:α→Bool)(c:PV)(cs:List PV)(H0:Heap)(hH:Cl H0)(hc:∀r∈PV.refsL (c::cs),r<H0.length)(l:List α)(hv:∀x∈l,T.ref g (.d (dv x)::c::cs) H0=some (.d (.b (p x)),H0))(s:Bool)(hn:l.length≤maxLen) :
  T.ref 855 [.d (.l (K1 7) (l.map dv) s),.f g (c::cs)] H0=some (.d (.b (l.any p)),H0):=by
 rw[qeJ T (hQ 855 qlF rfl) rfl];have e:=qoL T (hQ 724 qnd rfl) g dv p c cs H0 hH hc l hv s hn
 have e2:=qq9 p l
 simp[qlF,Fr.ofArgs,e,e2,qbQ,qmo hH]
def qjp(l:List ABlock)(acc day n:Int):Bool:=(l.filter (qa2 acc day)).any (qha n)
theorem qK8(T:Tab)(hU:HU T)(hQ:HQ T)(l:List ABlock)(t:Bool)(acc day n:Int)(hn:l.length≤100000):T.val 767 [.l (K1 7) (l.map ABlock.dv) t,I acc,I day,I n]=some (.d (.b (qjp l acc day n)),false):=by
 rw[qab T (hQ 767 qlD rfl) rfl];have e:=qyI T hU l t acc day hn
 have hl:(l.filter (qa2 acc day)).length≤maxLen:=by
  have h1:=List.length_filter_le (qa2 acc day) l
  have h2:maxLen=9223372036854775807:=rfl
  omega
 have hH:Cl [some (.box K0 (.d (I n)))]:=fun r h=>by simp[qad,qai,Obj.refs,PV.refs]at h
 have e1:=qIv T hQ 856 ABlock.dv (qha n) (.p 0 0 0) [] [some (.box K0 (.d (I n)))] hH (by simp[PV.refs,PV.refsL]) (l.filter (qa2 acc day)) (fun a _=>qIw T hU hQ a n) false hl
 simp[qlD,Fr.ofArgs,e,e1,qjp]
end
theorem qt8:∀x:List UInt8,Op.bytesLess x x=false
 | []=>rfl
 |a::x=>by simp[Op.bytesLess,qt8 x]
theorem qt9:∀{x y z:List UInt8},Op.bytesLess x y=true→Op.bytesLess y z=true→Op.bytesLess x z=true
 | _,[],_,h,_=>by cases ‹List UInt8› <;> simp[Op.bytesLess]at h
 | _,_::_,[],_,h=>by simp[Op.bytesLess]at h
 | [],_::_,_::_,_,_=>rfl
 |a::x,b::y,c::z,h,k=>by
  simp only[Op.bytesLess,Bool.or_eq_true,zzf,zzq,beq_iff_eq]at h k⊢;rcases h with h|⟨rfl,h⟩
  ·rcases k with k|⟨rfl,k⟩
   ·exact .inl (UInt8.lt_trans h k)
   ·exact .inl h
  ·rcases k with k|⟨rfl,k⟩
   ·exact .inl k
   ·exact .inr ⟨rfl,qt9 h k⟩
theorem qqg:∀{x y:List UInt8},Op.bytesLess x y=false→Op.bytesLess y x=false→x=y
 | [],[],_,_=>rfl
 | [],_::_,h,_=>by simp[Op.bytesLess]at h
 | _::_,[],_,h=>by simp[Op.bytesLess]at h
 |a::x,b::y,h,k=>by
  simp only[Op.bytesLess,zzD,Bool.and_eq_false_iff,zzE,zzO]at h k;have e:a=b:=UInt8.le_antisymm (UInt8.not_lt.1 k.1) (UInt8.not_lt.1 h.1)
  subst e;have h2:=h.2
  have k2:=k.2
  simp only[ne_eq,not_true_eq_false,false_or]at h2 k2;rw[qqg h2 k2]
def ltL(a b:ALeg):Bool:=decide (a.Account<b.Account)||((a.Account==b.Account)&&Op.bytesLess a.Currency b.Currency)
def qsh(a b:ALeg):Prop:=a.Account=b.Account∧a.Currency=b.Currency
theorem qDv{a b:ALeg}:ltL a b=true↔a.Account<b.Account∨(a.Account=b.Account∧Op.bytesLess a.Currency b.Currency=true):=by simp[ltL]
theorem qwo{a b c:ALeg}(h:ltL a b=true)(k:ltL b c=true):ltL a c=true:=by
 rw[qDv]at *
 rcases h with h|⟨h1,h2⟩
 ·rcases k with k|⟨k1,k2⟩<;>exact .inl (by omega)
 ·rcases k with k|⟨k1,k2⟩
  ·exact .inl (by omega)
  ·exact .inr ⟨by omega,qt9 h2 k2⟩
theorem qwp{a b:ALeg}(h:ltL a b=false)(k:ltL b a=false):qsh a b:=by
 simp only[ltL,zzD,zzE,Bool.and_eq_false_iff,zzO]at h k;have e:a.Account=b.Account:=by omega
 refine⟨e,qqg ?_ ?_⟩
 ·rcases h.2 with h|h
  ·exact absurd e h
  ·exact h
 ·rcases k.2 with k|k
  ·exact absurd e.symm k
  ·exact k
theorem qDw{a b c:ALeg}(h:qsh a b):ltL c a=ltL c b:=by simp[ltL,h.1,h.2]
def qkm(y x:ALeg):ALeg:=⟨y.Account,w64 (y.Amount+x.Amount),y.Currency⟩
def qa0:List ALeg→ALeg→List ALeg
 | [],x=>[x]
 |y::r,x=>if ltL y x=true then y::qa0 r x else if ltL x y=true then x::y::r else qkm y x::r
abbrev Srt(l:List ALeg):Prop:=l.Pairwise fun a b=>ltL a b=true
theorem qwu:∀{l:List ALeg} {x y:ALeg},y∈qa0 l x→y∈l∨qsh y x
 | [],x,y,h=>by simp[qa0]at h;subst h;exact .inr ⟨rfl,rfl⟩
 |z::r,x,y,h=>by
  unfold qa0 at h;split at h
  ·rcases List.mem_cons.1 h with rfl|h
   ·exact .inl (zzr ..)
   ·rcases qwu h with h|h
    ·exact .inl (zzi _ h)
    ·exact .inr h
  ·split at h
   ·rcases List.mem_cons.1 h with rfl|h
    ·exact .inr ⟨rfl,rfl⟩
    ·exact .inl h
   ·rename_i h1 h2;rcases List.mem_cons.1 h with rfl|h
    ·have k:=qwp (by simpa using h1) (by simpa using h2)
     exact .inr k
    ·exact .inl (zzi _ h)
theorem qtc:∀{l:List ALeg} (x:ALeg),Srt l→Srt (qa0 l x)
 | [],x,_=>by simp[qa0,Srt]
 |z::r,x,h=>by
  have h':=List.pairwise_cons.1 h
  unfold qa0;split
  ·rename_i hz;refine List.pairwise_cons.2 ⟨fun y hy => ?_,qtc x h'.2⟩
   rcases qwu hy with hy|hy
   ·exact h'.1 y hy
   ·rw[qDw hy];exact hz
  ·split
   ·rename_i hz;refine List.pairwise_cons.2 ⟨fun y hy => ?_,h⟩
    rcases List.mem_cons.1 hy with rfl|hy
    ·exact hz
    ·exact qwo hz (h'.1 y hy)
   ·exact List.pairwise_cons.2 ⟨fun y hy=>(h'.1 y hy),h'.2⟩
theorem qoc:∀(l:List ALeg) (x:ALeg),(qa0 l x).length≤l.length+1
 | [],x=>by simp[qa0]
 |z::r,x=>by
  unfold qa0
  have:=qoc r x
  split
  ·simp;omega
  ·split<;>simp
theorem qod(l:List ALeg)(x:ALeg):qa0 l x≠[]:=by
 cases l with
 |nil=>simp[qa0]
 |cons z r=>unfold qa0;split<;>(try split)<;>simp
def plc(l:List ALeg)(x:ALeg):Nat:=(l.takeWhile fun y=>ltL y x).length
theorem qoe:∀(l:List ALeg) (x:ALeg),(∀h:plc l x<l.length,ltL x l[plc l x]=true)→qa0 l x=l.take (plc l x)++x::l.drop (plc l x)
 | [],x,_=>rfl
 |z::r,x,h=>by
  unfold qa0;by_cases hz:ltL z x=true
  ·have e:plc (z::r) x=plc r x+1:=by simp[plc,hz]
   simp only[e]at h⊢;rw[if_pos hz,qoe r x (fun hk=>by simpa using h (by simpa using hk))]
   rfl
  ·have e:plc (z::r) x=0:=by simp[plc,hz]
   simp only[e]at h⊢;rw[if_neg hz,if_pos (by simpa using h (by simp))]
   rfl
theorem qrb:∀(l:List ALeg) (x:ALeg) (h:plc l x<l.length),ltL x l[plc l x]=false→qa0 l x=l.set (plc l x) (qkm l[plc l x] x)
 | [],x,h,_=>by simp at h
 |z::r,x,h,hn=>by
  unfold qa0;by_cases hz:ltL z x=true
  ·have e:plc (z::r) x=plc r x+1:=by simp[plc,hz]
   simp only[e]at h hn⊢;rw[if_pos hz,qrb r x (by simpa using h) (by simpa using hn)]
   simp
  ·have e:plc (z::r) x=0:=by simp[plc,hz]
   simp only[e]at h hn⊢;rw[if_neg hz,if_neg (by simpa using hn)]
   simp
theorem qoF(l:List ALeg)(x:ALeg):plc l x≤l.length:=(List.takeWhile_sublist _).length_le
theorem qsL:∀(l:List ALeg) (x:ALeg) (j:Nat) (h:j<l.length),j<plc l x→ltL l[j] x=true
 | [],x,j,h,_=>by simp at h
 |z::r,x,j,h,hj=>by
  by_cases hz:ltL z x=true
  ·have e:plc (z::r) x=plc r x+1:=by simp[plc,hz]
   cases j with
   |zero=>exact hz
   |succ j=>simp only[zzG];exact qsL r x j _ (by omega)
  ·have e:plc (z::r) x=0:=by simp[plc,hz]
   omega
theorem qmP:∀(l:List ALeg) (x:ALeg) (h:plc l x<l.length),ltL l[plc l x] x=false
 | [],x,h=>by simp at h
 |z::r,x,h=>by
  by_cases hz:ltL z x=true
  ·have e:plc (z::r) x=plc r x+1:=by simp[plc,hz]
   simp only[e]at h⊢;simp only[zzG];exact qmP r x (by simpa using h)
  ·have e:plc (z::r) x=0:=by simp[plc,hz]
   simp only[e];simpa using hz
theorem qH4{l:List ALeg}(hs:Srt l)(x:ALeg)(j:Nat)(h:j<l.length)(hj:plc l x≤j):ltL l[j] x=false:=by
 have h0:=qmP l x (by omega)
 by_cases e:plc l x=j
 ·simp only[e]at h0;exact h0
 ·have:=List.pairwise_iff_getElem.1 hs (plc l x) j (by omega) h (by omega)
  cases hl:ltL l[j] x with
  |false=>rfl
  |true=>rw[qwo this hl]at h0;cases h0
def qf3(l:List ALeg):List ALeg:=(l.foldl qa0 []).filter fun x=>x.Amount != 0
theorem qn3:∀(l a:List ALeg),(l.foldl qa0 a).length≤a.length+l.length
 | [],a=>by simp
 |x::l,a=>by
  have:=qn3 l (qa0 a x)
  have:=qoc a x
  simp only[List.foldl_cons,zzn];omega
noncomputable def tabN:PT :=
 (.bin 268 qlp (.bin 181 qlm (.bin 179 F179 (.bin 110 qll .nil .nil) (.bin 180 F180 .nil .nil)) (.bin 263 qlo (.bin 262 F262 .nil .nil) (.bin 265 qi2 .nil .nil))) (.bin 382 qls (.bin 342 qlq (.bin 341 F341 .nil .nil) (.bin 344 qlr .nil .nil)) (.bin 1020 qk3 (.bin 1018 F1018 .nil .nil) .nil)))
abbrev HN(T:Tab):Prop:=∀n F,tabN.get n=some F→T.F n=some F
section
attribute [local simp ↓] qdZ qdX qdP qdY qdM qdQ qdN qdO sqK blK lpK qd4 qd2 qd0 qd3 qd1 qdI qdK qeu qdo qdm qdn qdr qcS qcT qcD qcG qcR qcV qcF qcW qcL qcN qcO qcP qcU qcQ qcE qcH qcj qcI qcM qdk qdh qcY qcX qc6 qcZ qbu qbC qc0 qc1 qd6 qcu qd5 qes qcz qdc qdd qc7 qc9 qc8 qcl qdl qcn qc3 qdg qdb qda qc5 qc4 qdf qdi qc2 qde qdJ qck qcy qdz qcw qbR qdA qco qcp qdj qbV qer qcJ qdp qdq qd8 qet qd7 qdR qdS qdT qdU qdV qdW qcK qdy qew qeP qeQ qeN qeO qeM qev qeT qeR qfn qeS qfs qfJ qcm
attribute [local simp] qbO qd9 qea qdE qdF qds qdt qep qeq qdB qdC rd IOp.adds qaq gh nid rgK rdS qdG qdH qeb qec qeg qeh qek qef qej qei qcC qcA qcB qee qed qdx qdw qem qel qen qeo qeC qeB qeE qeD qeH qeA qeI qfq qfj qfp qfo
section
attribute [local simp ↓] qbJ qbT qbx qeG qbS qfk qbt qbw qce qeV qeW qcq qcr qbv qey qbz qe0 qeZ qe6 qfi qeY qfg qff qbD qe2 qbX qe3 qe5 qe4 qe7 qe1 qe9 qfb qfe qfd qfc qe8 qfa qfh qex qeX
attribute [local simp] qby qbe writeS touchS qaD qa4 chg qbm qbb qaY qbc PV.refs PV.refsL IOp.okD IOp.barr qb2 Nat.testBit
attribute [local simp] gc Fr.keep qaf qae qad PV.refs PV.refsL qaj gcH qai Obj.refs PV.ren PV.renL Obj.ren Heap.obj Fr.ren gh zzd
def qit(a b:Int):Int:=if a<b then -1 else if b<a then 1 else 0
def qjk(a b:List UInt8):Int:=if Op.bytesLess a b=true then -1 else if Op.bytesLess b a=true then 1 else 0
def cmL(a b:ALeg):Int:=if qit a.Account b.Account=0 then qjk a.Currency b.Currency else qit a.Account b.Account
theorem qzV(a b:ALeg):decide (cmL a b<0)=ltL a b:=by
 unfold cmL qit qjk ltL;by_cases h1:a.Account<b.Account
 ·simp[h1]
 ·by_cases h2:b.Account<a.Account
  ·have:¬a.Account=b.Account:=by omega
   simp[h1,h2,this]
  ·have e:a.Account=b.Account:=by omega
   simp only[e,Int.lt_irrefl,if_false,if_true,decide_false,beq_self_eq_true,Bool.true_and,Bool.false_or];cases Op.bytesLess a.Currency b.Currency<;>cases Op.bytesLess b.Currency a.Currency<;>simp
theorem qzU(a b:ALeg)(h:ltL a b=false):(cmL a b==0) = !ltL b a:=by
 unfold cmL qit qjk;unfold ltL at h⊢;by_cases h1:a.Account<b.Account
 ·simp[h1]at h
 ·by_cases h2:b.Account<a.Account
  ·simp[h1,h2]
  ·have e:a.Account=b.Account:=by omega
   simp only[e,Int.lt_irrefl,if_false,if_true,decide_false,beq_self_eq_true,Bool.true_and,Bool.false_or]at h⊢;rw[h];cases Op.bytesLess b.Currency a.Currency<;>simp
theorem qyv(T:Tab)(hN:HN T)(x:Int):T.val 382 [I x]=some (.d (.b false),false):=by
 rw[qab T (hN 382 qls rfl) rfl];simp[qls,Fr.ofArgs,bne]
theorem qyu(T:Tab)(hN:HN T)(x:List UInt8):T.val 344 [.s x]=some (.d (.b false),false):=by
 rw[qab T (hN 344 qlr rfl) rfl];simp[qlr,Fr.ofArgs]
theorem qKo(T:Tab)(hN:HN T)(x y:Int):T.val 342 [I x,I y]=some (.d (I (qit x y)),false):=by
 rw[qab T (hN 342 qlq rfl) rfl];have e1:=qyv T hN x
 have e2:=qyv T hN y
 unfold qit;simp[qlq,Fr.ofArgs,e1,e2];repeat' (refine qat (fun h => ?_) (fun h => ?_)<;>(try simp at h)<;>(try simp[h]))
 all_goals first|omega|simp_all
 all_goals omega
theorem qmb{R:Type}(a b:List UInt8){d:DV→Option R}:bo (qaN .lss (.d (.s a)) (.d (.s b))) (.h d)=d (.b (Op.bytesLess a b)):=rfl
theorem qub{R:Type}(a b:List UInt8){d:DV→Option R}:bo (qaN .gtr (.d (.s a)) (.d (.s b))) (.h d)=d (.b (!(Op.bytesLess a b||a==b))):=rfl
theorem qAQ(a b:List UInt8)(h:Op.bytesLess a b=false):(!(Op.bytesLess a b||a==b))=Op.bytesLess b a:=by
 rw[h,Bool.false_or];cases hb:Op.bytesLess b a with
 |true =>
  have:a≠b:=by intro e;subst e;rw[qt8]at hb;cases hb
  simpa using this
 |false=>simp[qqg h hb]
theorem qKk(T:Tab)(hN:HN T)(x y:List UInt8):T.val 268 [.s x,.s y]=some (.d (I (qjk x y)),false):=by
 rw[qab T (hN 268 qlp rfl) rfl];have e1:=qyu T hN x
 have e2:=qyu T hN y
 unfold qjk;simp[qlp,Fr.ofArgs,e1,e2,↓qmb];refine qat (fun h => ?_) (fun h => ?_)
 ·simp[h]
 ·have g:=qAQ x y h
  rw[h]at g;simp[h,↓qub];refine qat (fun h2 => ?_) (fun h2 => ?_)
  ·rw[h2]at g;simp;exact g.symm
  ·rw[h2]at g;simp;exact g.symm
def orL:List Int→Int
 | []=>0
 |x::r=>if x=0 then orL r else x
theorem qCQ(T:Tab)(l:List Int)(t:Bool)(hn:l.length≤maxLen){k:KC (PV×Bool)}{r:Int→Option (PV×Bool)}{fr:Fr}{H:Heap}
  (hr:∀fr x,fr.get 2 = .d (I x)→qak fr=[]→k .ret fr []=r x)
  (h0:gc [3,6,7,8] 0 ⟨fr,H⟩=⟨[(8,.d (I 0)),(7,.d (I l.length)),(6,.d (.l K0 (l.map I) t)),(3,.d (I 0))],[]⟩)
  (he:k (.exit 0) [(9,.d (.b false)),(8,.d (I l.length)),(7,.d (I l.length)),(6,.d (.l K0 (l.map I) t)),(3,.d (I 0))] []=r 0) :
  kC T.env 0 fr H (.h (.loop [3,6,7,8] qnl,k))=r (orL l):=by
 have hm:=mxl
 rw[qa3 l (fun i _=>⟨[(8,.d (I i)),(7,.d (I l.length)),(6,.d (.l K0 (l.map I) t)),(3,.d (I 0))],[]⟩) (fun _ _=>True) (fun i _ x c=>if x=0 then c ()else r x) (fun _=>r 0) ?_ ?_ h0 trivial]
 ·have:∀(l:List Int) (i:Nat),qcx (fun i (_:Unit) x c=>if x=0 then c ()else r x) (fun _=>r 0) i () l=r (orL l):=by
   intro l;induction l with
   |nil=>intro i;rfl
   |cons x l ih =>
    intro i;rw[qcx,orL];split
    ·exact ih (i+1)
    ·rfl
  exact this l 0
 ·intro B _ _ _;rw[←he];simp
 ·intro B _ i _ hi _ c hc;have h1:(i:Int)<l.length:=by omega
  have h3:=wr1 (i:=i) (by omega)
  by_cases hz:l[i]=0
  ·rw[if_pos hz];simp[h1,hi,h3,hz,bne];exact hc () _ _ trivial (by simp)
  ·rw[if_neg hz];have hz':(l[i]==0)=false:=by simpa using hz
   simp[h1,hi,hz',bne];exact hr _ _ (by simp[Fr.get]) (by simp[qak,gh])
theorem qKn(T:Tab)(hN:HN T)(l:List Int)(t:Bool)(hn:l.length≤maxLen):T.val 341 [.l K0 (l.map I) t]=some (.d (I (orL l)),false):=by
 rw[qab T (hN 341 F341 rfl) rfl];have lp:=fun k r fr H => @qCQ T l t hn k r fr H
 simp[F341,Fr.ofArgs];refine lp _ (fun x=>some (.d (I x),false)) _ _ ?_ (by simp) ?_
 ·intro fr x h hg;simp[h,hg,qbR]
 ·simp
theorem qys(T:Tab)(hN:HN T)(a b:ALeg):T.val 263 [a.dv,b.dv]=some (.d (I (cmL a b)),false):=by
 rw[qab T (hN 263 qlo rfl) rfl];have e1:=qKo T hN a.Account b.Account
 have e2:=qKk T hN a.Currency b.Currency
 have e3:=qKn T hN [qit a.Account b.Account,qjk a.Currency b.Currency] false (by show 2≤maxLen;decide)
 have e4:orL [qit a.Account b.Account,qjk a.Currency b.Currency]=cmL a b:=by
  simp only[orL,cmL];split
  ·split
   ·rename_i h;rw[h]
   ·rfl
  ·rfl
 rw[e4]at e3;simp only[zzu,List.map_nil]at e3;simp[qlo,Fr.ofArgs,e1,e2,e3,↓qbJ,↓qbT,↓qbx,↓qbt,qby,↓qbw,↓qcr,↓qbv,↓qbD,↓qex,qbe,writeS,touchS,qaD,qa4,chg,qbm,qbb,qaY,qbc,PV.refs,IOp.okD,Nat.testBit,qhJ,qhM,qhL,qaK,pur,qa9]
theorem qCO(T:Tab)(hN:HN T)(l:List ALeg)(hs:Srt l)(x:ALeg)(w:DV)(t:Bool)(hn:l.length<1000000){k:KC (PV×Heap)}{r:Option (PV×Heap)}
  (he:∀b,k (.exit 0) [(17,.d (.b b)),(10,.d (I (plc l x))),(9,.d (I (plc l x))),(8,.d (I l.length)),(4,.p 2 0 0),(2,.f 263 []),(0,.r 0 (K1 3) 0 l.length t)] [some (.sl (K1 3) 0 (l.map ALeg.dv)),some (.box (K1 3) (.d w)),some (.box (K1 3) (.d x.dv))]=r)
  (lo hi:Nat) (h1:lo≤plc l x) (h2:plc l x≤hi) (h3:hi≤l.length) {fr:Fr} {H:Heap}
  (h0:gc [0,2,4,8,9,10] 2 ⟨fr,H⟩=⟨[(10,.d (I hi)),(9,.d (I lo)),(8,.d (I l.length)),(4,.p 2 0 0),(2,.f 263 []),(0,.r 0 (K1 3) 0 l.length t)],[some (.sl (K1 3) 0 (l.map ALeg.dv)),some (.box (K1 3) (.d w)),some (.box (K1 3) (.d x.dv))]⟩) :
  kC T.env 2 fr H (.h (.loop [0,2,4,8,9,10] qnj,k))=r:=by
 refine qbB (fun s:Nat×Nat=>⟨[(10,.d (I s.2)),(9,.d (I s.1)),(8,.d (I l.length)),(4,.p 2 0 0),(2,.f 263 []),(0,.r 0 (K1 3) 0 l.length t)],[some (.sl (K1 3) 0 (l.map ALeg.dv)),some (.box (K1 3) (.d w)),some (.box (K1 3) (.d x.dv))]⟩) (fun s=>s.1≤plc l x∧plc l x≤s.2∧s.2≤l.length) (fun s=>s.2-s.1) ?_ (lo,hi) ⟨h1,h2,h3⟩ h0
 rintro B-⟨a,b⟩ ⟨ha,hb,hc⟩ hx;simp only at ha hb hc hx⊢;have hx':=fun (s':Nat×Nat)=>hx s'
 clear hx
 by_cases hab:a<b
 ·obtain⟨m,hm⟩:∃m,(a+b)/2=m:=⟨_,rfl⟩;have g1:((a:Int)<b):=by omega
  have g2:m<l.length:=by omega
  have g3:(m:Int)<l.length:=by omega
  have w1:IntKind.i64.wrap ((a:Int)+b)=((a+b:Nat):Int):=by rw[wrI (by omega) (by omega)];omega
  have w2:IntKind.u64.wrap ((a+b:Nat):Int)=((a+b:Nat):Int):=wrU (by omega) (by omega)
  have w3:Int.fdiv ((a+b:Nat):Int) (2^min 1 IntKind.u64.bits)=(((a+b)/2:Nat):Int):=qAR (a+b)
  rw[hm]at w3;have w4:IntKind.i64.wrap (m:Int)=m:=wrI (by omega) (by omega)
  have w5:IntKind.i64.wrap ((m:Int)+1)=(m:Int)+1:=wrI (by omega) (by omega)
  obtain⟨z,hz⟩:∃z:Int,((a+b:Nat):Int)=z:=⟨_,rfl⟩;rw[hz]at w1 w2 w3;have e:=qys T hN l[m] x
  have e2:=qzV l[m] x
  simp[g1,g2,g3,w1,w2,w3,w4,↓qaZ,↓qbk,↓qzp,↓qb8,↓qca,↓qiw,↓qis,qal,e,e2];refine qat (fun h => ?_) (fun h => ?_)
  ·have hlt:m<plc l x:=by
    by_cases hh:m<plc l x
    ·exact hh
    ·rw[qH4 hs x m g2 (by omega)]at h;cases h
   simp[w4,w5];refine hx' (m+1,b) ⟨by omega,by omega,by omega⟩ (by simp only;omega) _ _ ?_
   simp
  ·have hge:plc l x≤m:=by
    by_cases hh:plc l x≤m
    ·exact hh
    ·rw[qsL l x m g2 (by omega)]at h;cases h
   simp[w4];refine hx' (a,m) ⟨by omega,by omega,by omega⟩ (by simp only;omega) _ _ ?_
   simp
 ·have:a=b:=by omega
  subst this;have hp:plc l x=a:=by omega
  rw[hp]at he;simp[he]
def fnd(l:List ALeg)(x:ALeg):Bool:=match l[plc l x]? with|some y => !ltL x y|none=>false
theorem qIn(T:Tab)(hN:HN T)(l:List ALeg)(hs:Srt l)(x:ALeg)(w:DV)(t:Bool)(hn:l.length<1000000) :
  T.ref 262 [.r 0 (K1 3) 0 l.length t,.d x.dv,.f 263 []] [some (.sl (K1 3) 0 (l.map ALeg.dv)),some (.box (K1 3) (.d w))]=some (.t [.d (I (plc l x)),.d (.b (fnd l x))],[some (.sl (K1 3) 0 (l.map ALeg.dv)),some (.box (K1 3) (.d w))]):=by
 rw[qeJ T (hN 262 F262 rfl) rfl];have hH:Cl [some (.sl (K1 3) 0 (l.map ALeg.dv)),some (.box (K1 3) (.d w))]:=fun r h=>by simp[qad,qai,Obj.refs,PV.refs]at h
 have lp:=fun k r he fr H => @qCO T hN l hs x w t hn k r he 0 l.length (zzK _) (qoF l x) (zzt _) fr H
 have hgc:∀v J,gcV 2 (.t [.d v,.d (.b (fnd l x))]) (some (.sl (K1 3) 0 (l.map ALeg.dv))::some (.box (K1 3) (.d w))::J)=(.t [.d v,.d (.b (fnd l x))],[some (.sl (K1 3) 0 (l.map ALeg.dv)),some (.box (K1 3) (.d w))]):=fun v J=>qgW hH (by simp[PV.refs,PV.refsL])
 simp[F262,Fr.ofArgs];refine lp _ _ (fun b => ?_) _ _ (by simp)
 by_cases hp:plc l x<l.length
 ·have e:=qys T hN l[plc l x] x
  have e2:=qzU l[plc l x] x (qmP l x hp)
  have hf:fnd l x = !ltL x l[plc l x]:=by rw[fnd,zze hp]
  rw[←hf]at e2;have g3:(plc l x:Int)<l.length:=by omega
  generalize plc l x=m at *
  simp[hp,g3,↓qb8,↓qca,↓qiw,↓qis,qal,e,e2,qbQ];exact hgc _ _
 ·have hf:fnd l x=false:=by rw[fnd,List.getElem?_eq_none (by omega)]
  have hp':¬((plc l x:Int)<l.length):=by omega
  rw[hf]at hgc⊢;simp[hp',qbQ];exact hgc _ _
abbrev HI(T:Tab):Prop:=∀args H,T.ref 264 args H=qkC (K1 3) 32 args H
theorem qz7(k:IntKind)(n:Int):DV.cells (.i k n)=[.i k n]:=rfl
theorem qIo(T:Tab)(hN:HN T)(x:ALeg)(w:DV) :
  T.ref 262 [.d (.l (K1 3) [] true),.d x.dv,.f 263 []] [some (.box (K1 3) (.d w))]=some (.t [.d (I 0),.d (.b false)],[some (.box (K1 3) (.d w))]):=by
 rw[qeJ T (hN 262 F262 rfl) rfl];have hH:Cl [some (.box (K1 3) (.d w))]:=fun r h=>by simp[qad,qai,Obj.refs,PV.refs]at h
 have hgc:∀J,gcV 1 (.t [.d (I 0),.d (.b false)]) (some (.box (K1 3) (.d w))::J)=(.t [.d (I 0),.d (.b false)],[some (.box (K1 3) (.d w))]):=fun J=>qgW hH (by simp[PV.refs,PV.refsL])
 simp[F262,Fr.ofArgs];rw[qjz];simp;simp[qbQ];exact hgc _
theorem qCM(T:Tab)(hN:HN T)(hI:HI T)(l:List ALeg)(t:Bool)(hn:l.length<1000000){k:KC (PV×Bool)}{fr:Fr}{H:Heap}
  (h0:gc [0,9,10,11] 0 ⟨fr,H⟩=⟨[(11,.d (I 0)),(10,.d (I l.length)),(9,.d (.l (K1 3) (l.map ALeg.dv) t)),(0,.d (.l (K1 3) [] true))],[]⟩) :
  kC T.env 0 fr H (.h (.loop [0,9,10,11] qke,k))=k (.exit 0) [(12,.d (.b false)),(11,.d (I l.length)),(10,.d (I l.length)),(9,.d (.l (K1 3) (l.map ALeg.dv) t)),(0,qao (K1 3) ((l.foldl qa0 []).map ALeg.dv))] (qaR (K1 3) ((l.foldl qa0 []).map ALeg.dv)):=by
 rw[qa3 l (fun i (g:List ALeg)=>⟨[(11,.d (I i)),(10,.d (I l.length)),(9,.d (.l (K1 3) (l.map ALeg.dv) t)),(0,qao (K1 3) (g.map ALeg.dv))],qaR (K1 3) (g.map ALeg.dv)⟩) (fun i g=>Srt g∧g.length≤i) (fun _ g x c=>c (qa0 g x)) (fun g=>k (.exit 0) [(12,.d (.b false)),(11,.d (I l.length)),(10,.d (I l.length)),(9,.d (.l (K1 3) (l.map ALeg.dv) t)),(0,qao (K1 3) (g.map ALeg.dv))] (qaR (K1 3) (g.map ALeg.dv))) ?_ ?_ (b0:=[]) h0 ⟨List.Pairwise.nil,zzt _⟩]
 ·rw[qbG (fun _ g x=>qa0 g x) _ _ (fun _ _ _ _=>rfl)]
  have:∀(l:List ALeg) (i:Nat) (g:List ALeg),qag (fun _ g x=>qa0 g x) i g l=l.foldl qa0 g:=by
   intro l;induction l with
   |nil=>intro _ _;rfl
   |cons x l ih=>intro i g;rw[qag,ih,List.foldl_cons]
  rw[this]
 ·intro B _ g _;cases g with
  |nil=>simp[qao,qaR]
  |cons y g=>simp[qao,qaR]
 ·intro B _ i g hi hg c hc;have h1:(i:Int)<l.length:=by omega
  have h3:=wr1 (i:=i) (by omega)
  have hg':Srt (qa0 g l[i])∧(qa0 g l[i]).length≤i+1:=⟨qtc _ hg.1,zzL (qoc _ _) (by omega)⟩
  have hc':=fun fr H=>hc (qa0 g l[i]) fr H hg'
  clear hc
  generalize hx:l[i]=x at *
  cases g with
  |nil =>
   have e:=qIo T hN x x.dv
   have hz:qa0 [] x=[x]:=rfl
   rw[hz]at hc'⊢;simp[qao,qaR,h1,hi,h3,hx,e,hI,qkC,qbo];exact hc' _ _ (by simp[qao,qaR])
  |cons y g =>
   obtain⟨gl,hgl⟩:∃gl,y::g=gl:=⟨_,rfl⟩;have hov:qao (K1 3) (List.map ALeg.dv (y::g)) = .r 0 (K1 3) 0 gl.length false:=by subst hgl;simp[qao]
   have hoo:qaR (K1 3) (List.map ALeg.dv (y::g))=[some (.sl (K1 3) 0 (gl.map ALeg.dv))]:=by subst hgl;simp[qaR]
   have hov':∀m,m≠[]→qao (K1 3) (List.map ALeg.dv m) = .r 0 (K1 3) 0 m.length false:=fun m hm=>by
    cases m with
    |nil=>exact absurd rfl hm
    |cons a b=>simp[qao]
   have hoo':∀m,m≠[]→qaR (K1 3) (List.map ALeg.dv m)=[some (.sl (K1 3) 0 (m.map ALeg.dv))]:=fun m hm=>by
    cases m with
    |nil=>exact absurd rfl hm
    |cons a b=>simp[qaR]
   simp only[hov,hoo];simp only[hgl]at hg hg' hc'⊢;rw[hov' _ (qod gl x),hoo' _ (qod gl x)]at hc';clear hov hoo hov' hoo' hgl
   have hlen:gl.length<1000000:=by omega
   have e:=qIn T hN gl hg.1 x x.dv false hlen
   cases hf:fnd gl x with
   |true =>
    rw[hf]at e;have hp:plc gl x<gl.length:=by
     unfold fnd at hf;split at hf
     ·rename_i h;exact (zzk.1 h).1
     ·cases hf
    have hl:ltL x gl[plc gl x]=false:=by
     rw[fnd,zze hp]at hf;simpa using hf
    rw[qrb gl x hp hl]at hc'⊢;generalize plc gl x=p at *
    have g3:(p:Int)<gl.length:=by omega
    have hm:∀n,mkD (some 3) (putAt gl[p].dv.cells 1 [.i .i64 n])=some (ALeg.dv ⟨gl[p].Account,n,gl[p].Currency⟩):=fun _=>rfl
    simp[h1,hi,h3,hx,e,hp,g3,↓qb8,-qbV,↓qkS,↓qoV,↓qkR,↓qjO,qax,hm,qz7];refine hc' _ _ ?_;rw[show ∀v:ALeg,(gl.map ALeg.dv).set p v.dv=(gl.set p v).map ALeg.dv from fun v=>List.map_set.symm]
    simp[qkm,w64]
   |false =>
    rw[hf]at e;have hl:∀h:plc gl x<gl.length,ltL x gl[plc gl x]=true:=fun h=>by
     rw[fnd,zze h]at hf;simpa using hf
    have hpl:=qoF gl x
    rw[qoe gl x hl]at hc'⊢;generalize plc gl x=p at *
    have g3:(p:Int)≤gl.length:=by omega
    have g4:(gl.length+1)*32≤140737488355328:=by omega
    have g5:(gl.map ALeg.dv).take gl.length=gl.map ALeg.dv:=zzv (by simp)
    have g6:Nat.beq 0 2=false:=rfl
    simp[h1,hi,h3,hx,e,hI,qkC,qbo,g3,g4,g5,g6];refine hc' _ _ ?_;simp;omega
theorem qKi(T:Tab)(hN:HN T)(hI:HI T)(l:List ALeg)(t:Bool)(hn:l.length<1000000):T.val 179 [.l (K1 3) [] true,.l (K1 3) (l.map ALeg.dv) t]=some (.d (.l (K1 3) ((l.foldl qa0 []).map ALeg.dv) false),true):=by
 rw[qab T (hN 179 F179 rfl) rfl];have lp:=fun k fr H => @qCM T hN hI l t hn k fr H
 simp[F179,Fr.ofArgs];refine (lp _ _ _ (by simp)).trans ?_
 generalize l.foldl qa0 []=g;cases g with
 |nil=>simp[qao,qaR]
 |cons x g =>
  have ht:(g.map ALeg.dv).take g.length=g.map ALeg.dv:=zzv (by simp)
  simp[qao,qaR,ht]
theorem qyq(T:Tab)(hN:HN T)(x:ALeg):T.val 181 [x.dv]=some (.d (.b (x.Amount==0)),false):=by
 rw[qab T (hN 181 qlm rfl) rfl];simp[qlm,Fr.ofArgs]
def isZ(x:ALeg):Bool:=x.Amount==0
theorem qDr(T:Tab)(hN:HN T)(l:List ALeg)(hn:l.length≤maxLen){k:KC (PV×Heap)}{r:Nat→Option (PV×Heap)}{fr:Fr}{H:Heap}
  (hr:∀(j:Nat) fr J,fr.get 4 = .d (I j)→qak fr=[]→k .ret fr ([some (.sl (K1 3) 0 (l.map ALeg.dv))]++J)=r j)
  (h0:gc [0,1,7,8] 1 ⟨fr,H⟩=⟨[(8,.d (I 0)),(7,.d (I l.length)),(1,.f 181 []),(0,.r 0 (K1 3) 0 l.length false)],[some (.sl (K1 3) 0 (l.map ALeg.dv))]⟩) :
  kC T.env 1 fr H (.h (.loop [0,1,7,8] (qjc (K1 3)),k))=match l.findIdx? isZ with|some j=>r j|none=>k (.exit 0) [(9,.d (.b false)),(8,.d (I l.length)),(7,.d (I l.length)),(1,.f 181 []),(0,.r 0 (K1 3) 0 l.length false)] [some (.sl (K1 3) 0 (l.map ALeg.dv))]:=by
 rw[qa3 l (fun i _=>⟨[(8,.d (I i)),(7,.d (I l.length)),(1,.f 181 []),(0,.r 0 (K1 3) 0 l.length false)],[some (.sl (K1 3) 0 (l.map ALeg.dv))]⟩) (fun _ _=>True) (fun i _ x c=>if isZ x=true then r i else c ()) (fun _=>k (.exit 0) [(9,.d (.b false)),(8,.d (I l.length)),(7,.d (I l.length)),(1,.f 181 []),(0,.r 0 (K1 3) 0 l.length false)] [some (.sl (K1 3) 0 (l.map ALeg.dv))]) ?_ ?_ h0 trivial]
 ·rw[qoO isZ r _ _ (fun _ _ _ _=>rfl)]
  simp only[Nat.zero_add];try (cases l.findIdx? isZ<;>rfl)
 ·intro B _ _ _;simp[qjc]
 ·intro B _ i _ hi _ cc hcc;have hm:=mxl
  have h1:(i:Int)<l.length:=by omega
  have h3:=wr1 (i:=i) (by omega)
  have he:=qyq T hN l[i]
  simp[qjc,h1,hi,he,↓qb8,↓qca,qal];refine qat (fun h => ?_) (fun h => ?_)
  ·rw[if_pos (show isZ l[i]=true from h)]
   simp;simpa using hr i _ [] (by simp[Fr.get]) (by simp[qak,gh])
  ·rw[if_neg (by rw[isZ,h];decide)]
   simp[h3];exact hcc () _ _ trivial (by simp)
theorem qIp(T:Tab)(hN:HN T)(l:List ALeg)(hn:l.length≤maxLen):T.ref 265 [.r 0 (K1 3) 0 l.length false,.f 181 []] [some (.sl (K1 3) 0 (l.map ALeg.dv))]=some (.d (I (qhV isZ l)),[some (.sl (K1 3) 0 (l.map ALeg.dv))]):=by
 rw[qeJ T (hN 265 qi2 rfl) rfl];have hH:Cl [some (.sl (K1 3) 0 (l.map ALeg.dv))]:=fun r h=>by simp[qad,qai,Obj.refs]at h
 have lp:=fun k r fr H => @qDr T hN l hn k r fr H
 have hg:∀v J,gcV 1 (.d v) (some (.sl (K1 3) 0 (l.map ALeg.dv))::J)=(.d v,[some (.sl (K1 3) 0 (l.map ALeg.dv))]):=fun v J=>qhf hH J v
 simp[qi2,qig,Fr.ofArgs];refine (lp _ (fun j=>some (.d (I j),[some (.sl (K1 3) 0 (l.map ALeg.dv))])) _ _ ?_ (by simp)).trans ?_
 ·intro j fr J h1 h2;simp[h1,h2,qbQ,hg]
 ·unfold qhV;cases l.findIdx? isZ with
  |some j=>rfl
  |none=>simp[qbQ,hg]
def qbp(x:ALeg):Bool:=x.Amount != 0
structure DelI (l:List ALeg) (j i:Nat) (e:List ALeg):Prop where
 len:e.length=l.length
 ij:i≤j
 jn:j≤l.length
 pre:e.take i=(l.take j).filter qbp
 suf:e.drop j=l.drop j
theorem DelI.getJ{l:List ALeg}{j i:Nat}{e:List ALeg}(h:DelI l j i e)(hj:j<l.length):e[j]? = some l[j]:=by
 have:=congrArg (fun x=>x[0]?) h.suf
 simp only[List.getElem?_drop,Nat.add_zero]at this;rw[this,zze hj]
theorem DelI.skip{l:List ALeg}{j i:Nat}{e:List ALeg}(h:DelI l j i e)(hj:j<l.length)(hz:qbp l[j]=false):DelI l (j+1) i e where
 len:=h.len
 ij:=by have:=h.ij;omega
 jn:=hj
 pre:=by rw[zzw hj,List.filter_append,h.pre];simp[hz]
 suf:=by rw[←List.drop_drop,h.suf,List.drop_drop]
theorem DelI.keep{l:List ALeg}{j i:Nat}{e:List ALeg}(h:DelI l j i e)(hj:j<l.length)(hz:qbp l[j]=true):DelI l (j+1) (i+1) (e.set i l[j]) where
 len:=by simp[h.len]
 ij:=by have:=h.ij;omega
 jn:=hj
 pre:=by
  have h1:=h.ij
  have h2:=h.len
  rw[zzw hj,List.filter_append,←h.pre];rw[zzw (by simp;omega)]
  simp[hz,List.take_set_of_le]
 suf:=by
  have h1:=h.ij
  rw[List.drop_set_of_lt (by omega),←List.drop_drop,h.suf,List.drop_drop]
theorem qCN(T:Tab)(hN:HN T)(l:List ALeg)(hn:l.length<1000000){k:KC (PV×Heap)}{r:Option (PV×Heap)}{fr:Fr}{H:Heap}(j0 i0:Nat)(e0:List ALeg)(hI:DelI l j0 i0 e0)
  (hr:∀(i:Nat) (e:List ALeg),DelI l l.length i e→k (.exit 0) [(19,.d (.b false)),(6,.d (I l.length)),(5,.d (I i)),(1,.f 181 []),(0,.r 0 (K1 3) 0 l.length false)] [some (.sl (K1 3) 0 (e.map ALeg.dv))]=r)
  (h0:gc [0,1,5,6] 1 ⟨fr,H⟩=⟨[(6,.d (I j0)),(5,.d (I i0)),(1,.f 181 []),(0,.r 0 (K1 3) 0 l.length false)],[some (.sl (K1 3) 0 (e0.map ALeg.dv))]⟩) :
  kC T.env 1 fr H (.h (.loop [0,1,5,6] qpC,k))=r:=by
 refine qbB (fun s:Nat×Nat×List ALeg=>⟨[(6,.d (I s.1)),(5,.d (I s.2.1)),(1,.f 181 []),(0,.r 0 (K1 3) 0 l.length false)],[some (.sl (K1 3) 0 (s.2.2.map ALeg.dv))]⟩) (fun s=>DelI l s.1 s.2.1 s.2.2) (fun s=>l.length-s.1) ?_ (j0,i0,e0) hI h0
 rintro B-⟨j,i,e⟩ hI hx;simp only at hI hx⊢;have hx':=fun (s':Nat×Nat×List ALeg)=>hx s'
 clear hx
 have hel:=hI.len
 have hij:=hI.ij
 by_cases hj:j<l.length
 ·have g1:(j:Int)<l.length:=by omega
  have hgj:=hI.getJ hj
  have g2:(i:Int)<l.length:=by omega
  have g3:i<l.length:=by omega
  have w1:IntKind.i64.wrap ((j:Int)+1)=(j:Int)+1:=wrI (by omega) (by omega)
  have w2:IntKind.i64.wrap ((i:Int)+1)=(i:Int)+1:=wrI (by omega) (by omega)
  have he:=qyq T hN l[j]
  have hk:=hI.keep hj
  have hs:=hI.skip hj
  have hq:(l[j].Amount==0) = !qbp l[j]:=by simp[qbp,bne]
  rw[hq]at he;have hje:j<e.length:=by omega
  have hx:l[j]=e[j]:=by rw[zze hje]at hgj;exact (Option.some.inj hgj).symm
  simp only[hx]at he hk hs;clear hgj hx hq
  have g4:i<e.length:=by omega
  simp[hj,g1,he,hel,↓qb8,↓qca,qal,-qbV,↓qkS,↓qoV];refine qat (fun h => ?_) (fun h => ?_)
  ·simp[w1,w2,g2,g3,hel,↓qb8,-qbV,↓qkS,↓qkR];refine hx' (j+1,i+1,e.set i e[j]) (hk h) (by simp only;omega) _ _ ?_
   rw[show ∀v:ALeg,(e.map ALeg.dv).set i v.dv=(e.set i v).map ALeg.dv from fun v=>List.map_set.symm]
   simp
  ·simp[w1];exact hx' (j+1,i,e) (hs h) (by simp only;omega) _ _ (by simp)
 ·have hj':j=l.length:=by have:=hI.jn;omega
  subst hj';simp[hel,hr i e hI]
theorem DelI.start{l:List ALeg}{p:Nat}(h:l.findIdx? isZ=some p):DelI l (p+1) p l:=by
 obtain⟨hp,h1,h2⟩:=List.findIdx?_eq_some_iff_getElem.1 h;refine⟨rfl,by omega,hp,?_,rfl⟩
 have hz:qbp l[p]=false:=by simpa[qbp,isZ]using h1
 rw[zzw hp,List.filter_append];simp only[List.filter_cons,hz,zzg,if_false,List.filter_nil,List.append_nil];symm
 rw[List.filter_eq_self];intro x hx;obtain⟨i,hi,rfl⟩:=List.getElem_of_mem hx;rw[List.getElem_take]
 have:=h2 i (by rw[zzI]at hi;omega)
 simpa[qbp,isZ]using this
theorem qIl(T:Tab)(hN:HN T)(l:List ALeg)(hn:l.length<1000000):∃es:List DV,es.take (l.filter qbp).length=(l.filter qbp).map ALeg.dv∧(l.filter qbp).length≤es.length∧T.ref 180 [.r 0 (K1 3) 0 l.length false,.f 181 []] [some (.sl (K1 3) 0 (l.map ALeg.dv))]=some (.r 0 (K1 3) 0 (l.filter qbp).length false,[some (.sl (K1 3) 0 es)]):=by
 have hm:=mxl
 have e1:=qIp T hN l (by omega)
 have hH:∀es:List DV,Cl [some (.sl (K1 3) 0 es)]:=fun es r h=>by simp[qad,qai,Obj.refs]at h
 have hgc:∀(es:List DV) off len J,gcV 1 (.r 0 (K1 3) off len false) (some (.sl (K1 3) 0 es)::J)=(.r 0 (K1 3) off len false,[some (.sl (K1 3) 0 es)]):=fun es off len J=>qgW (hH es) (by simp[PV.refs])
 rw[qeJ T (hN 180 F180 rfl) rfl];unfold qhV at e1;cases hf:l.findIdx? isZ with
 |none =>
  rw[hf]at e1;have hall:l.filter qbp=l:=by
   rw[List.filter_eq_self];intro x hx
   have:=List.findIdx?_eq_none_iff.1 hf x hx
   simpa[qbp,isZ]using this
  refine⟨l.map ALeg.dv,by rw[hall];exact zzv (by simp),by rw[hall];simp,?_⟩
  rw[hall];simp[F180,Fr.ofArgs,e1,qbQ,hgc]
 |some p =>
  rw[hf]at e1;have hp:p<l.length:=(List.findIdx?_eq_some_iff_findIdx_eq.1 hf).1
  have w1:IntKind.i64.wrap ((p:Int)+1)=(p:Int)+1:=wrI (by omega) (by omega)
  have g0:((p:Int) == -1)=false:=by simp
  have hml:(l.filter qbp).length≤l.length:=List.length_filter_le _ _
  refine⟨(l.filter qbp).map ALeg.dv++List.replicate (l.length-(l.filter qbp).length) (.a [I 0,I 0,.s []]),by rw[List.take_append_of_le_length (by simp)];exact zzv (by simp),by simp,?_⟩
  simp[F180,Fr.ofArgs,e1,g0,w1];refine qCN T hN l hn (p+1) p l (DelI.start hf) (fun i e hI => ?_) (by simp)
  have hel:=hI.len
  have hi:i=(l.filter qbp).length:=by
   have:=congrArg List.length hI.pre
   rw[zzv (zzt l.length),zzI]at this
   have:=hI.ij
   omega
  have hpre:=hI.pre
  rw[zzv (zzt l.length)]at hpre;have g1:(i:Int)≤l.length:=by omega
  have g2:i≤l.length:=by omega
  have g3:i+(l.length-i)=l.length:=by omega
  have g4:(putAt (e.map ALeg.dv) i (List.replicate (l.length-i) (.a [I 0,I 0,.s []]))).length=l.length:=by simp[putAt];omega
  have hput:putAt (e.map ALeg.dv) i (List.replicate (l.length-i) (.a [I 0,I 0,.s []]))=(l.filter qbp).map ALeg.dv++List.replicate (l.length-(l.filter qbp).length) (.a [I 0,I 0,.s []]):=by
   rw[putAt,←List.map_take,hpre,List.length_replicate,zzF (by simp;omega),List.append_nil,hi]
  rw[←hput,←hi];simp[↓qnH,↓qzi,↓qzR,g1,g3,g4,hel,qbQ,hgc]
theorem qKg(T:Tab)(hN:HN T)(hI:HI T)(l:List ALeg)(t:Bool)(hn:l.length<1000000):T.val 110 [.l (K1 3) (l.map ALeg.dv) t]=some (.d (.l (K1 3) ((qf3 l).map ALeg.dv) false),true):=by
 rw[qab T (hN 110 qll rfl) rfl];have e1:=qKi T hN hI l t hn
 have hl:=qn3 l []
 have hd:qf3 l=(l.foldl qa0 []).filter qbp:=rfl
 rw[hd];generalize l.foldl qa0 []=g at *
 obtain⟨es,h1,h2,e2⟩:=qIl T hN g (by simp at hl;omega)
 simp[qll,Fr.ofArgs,e1,↓qcj,↓qcw,e2,h1,h2]
theorem qti(T:Tab)(hN:HN T)(a b:ALeg):T.val 1020 [a.dv,b.dv]=some (.d (.b (ltL a b)),false):=by
 rw[qab T (hN 1020 qk3 rfl) rfl];unfold ltL;simp[qk3,Fr.ofArgs];repeat' (refine qat (fun h => ?_) (fun h => ?_)<;>(try simp at h)<;>(try simp[h,↓qmb]))
 all_goals first|(simp_all;done)|(simp_all;omega)
end
theorem qLC(T:Tab)(hF:HF5 T)(n:Int):T.val 948 [I n]=some (.d (I n),false):=by
 rw[qab T (hF 948 qlO rfl) rfl];simp[qlO,Fr.ofArgs]
section
variable {R : Type} {y : PV → Option R}
theorem qkT{n c:Nat}{l:List PV}:bo (qgF (some n) (.a l) c none) (.h y)=chk (c<n) (.h (bo l[c]? (.h y))):=by
 unfold chk;simp only[qgF,K.eq,Bool.and_false,zzg,if_false];change bo (@ite _ (c+1≤n) (Nat.decLe _ _) (mkP none ((List.drop c l).take 1)) none) (.h y)=_
 by_cases h:c<n
 ·rw[if_pos h,if_pos (by omega),qtf]
  cases l[c]? <;> rfl
 ·rw[if_neg h,if_neg (by omega)];rfl
theorem qkp(l:List PV):PV.cells (.a l)=l:=rfl
theorem qhS{n:Nat}{l:List PV}:fits (some n) (.a l)=(l.length==n):=rfl
end
section
attribute [local simp ↓] qbJ qbT qbx qeG qbS qfk qbt qbw qce qeV qeW qcq qcr qbv qey qbz qe0 qeZ qe6 qfi qeY qfg qff qbD qe2 qbX qe3 qe5 qe4 qe7 qe1 qe9 qfb qfe qfd qfc qe8 qfa qfh qex qeX
attribute [local simp] qby qbe writeS touchS qaD qa4 chg qbm qbb qaY qbc PV.refs PV.refsL IOp.okD IOp.barr qb2 Nat.testBit
attribute [local simp] gc Fr.keep qaf qae qad PV.refs PV.refsL qaj gcH qai Obj.refs PV.ren PV.renL Obj.ren Heap.obj Fr.ren gh zzd
theorem qyZ(k k' k2:K)(v w u:DV):Cl [some (.box k (.d v)),some (.box k' (.d w)),some (.box k2 (.d u)),none]:=fun r h=>by simp[qad,qai,Obj.refs,PV.refs]at h
theorem qji(n:Nat)(cs:List PV):PV.cells (.f n cs)=[.f n cs]:=rfl
theorem qsK(n:Nat)(cs vs:List PV):qal (.f n cs::vs)=none:=rfl
def qtB(w:Int):PV:=if w=2 then .a [.f 948 []]else if w=3 then .a [.f 879 []]else .d (.a [.nf])
def qtA(w:Int):Bool:=decide (w=2)||decide (w=3)
theorem qIx(T:Tab)(hF:HF5 T)(w:Int)(H0:Heap)(hH:Cl H0):T.ref 917 [.d (I w)] H0=some (.t [qtB w,.d (.b (qtA w))],H0):=by
 rw[qeJ T (hF 917 qic rfl) rfl];unfold qtB qtA;by_cases h2:w=2
 ·subst h2;simp[qic,Fr.ofArgs,qjL,↓qaA,↓qaC,↓qaB,putAt,mkA,qax,qhd,qji,qsK,qhS,List.drop_succ_cons,qbQ];first|refine (congrArg some (qgW hH ?_)).trans ?_|refine (qgW hH ?_).trans ?_
  ·simp[PV.refs,PV.refsL]
  ·rfl
 ·have g2:=qac h2
  by_cases h3:w=3
  ·subst h3;simp[qic,Fr.ofArgs,qjL,↓qaA,↓qaC,↓qaB,putAt,mkA,qax,qhd,qji,qsK,qhS,List.drop_succ_cons,qbQ];first|refine (congrArg some (qgW hH ?_)).trans ?_|refine (qgW hH ?_).trans ?_
   ·simp[PV.refs,PV.refsL]
   ·rfl
  ·have g3:=qac h3
   simp[qic,Fr.ofArgs,h2,g2,h3,g3,qjL,↓qaA,↓qaC,mkA,qal,qbQ];first|refine (congrArg some (qgW hH ?_)).trans ?_|refine (qgW hH ?_).trans ?_
   ·simp[PV.refs,PV.refsL]
   ·rfl
theorem qH9{b:ABooks}(hb:b.ok)(id day:Int):(∀r∈((qb1 b id day).getD .zero).Rules.l,r.ok)∧((qb1 b id day).getD .zero).Rules.l.length≤maxLen:=by
 cases hp:qb1 b id day with
 |none=>exact⟨fun r hr=>(by cases hr),zzK _⟩
 |some p =>
  have hmem:p∈b.Products.l:=by
   unfold qb1 at hp;split at hp
   ·exact qt1 hp
   ·cases hp
  have ho:=hb.2.2.2.2.1.2 p hmem
  exact⟨ho.2.2.2.2.2.2.2.2.2.2.2,ho.2.2.2.2.2.2.2.2.2.2.1⟩
theorem qwO(l:List ALeg):(qf3 l).length≤l.length:=zzL (List.length_filter_le _ _) (by have:=qn3 l [];simpa using this)
end
end
noncomputable def tabR:PT :=
 (.bin 1063 qjU (.bin 1054 qiW (.bin 1048 F1048 (.bin 1041 F1041 (.bin 1031 qgH .nil .nil) (.bin 1042 F1042 .nil .nil)) (.bin 1052 qjS (.bin 1049 qk8 .nil .nil) (.bin 1053 qlb .nil .nil))) (.bin 1058 qhA (.bin 1056 qjT (.bin 1055 qlc .nil .nil) (.bin 1057 qft .nil .nil)) (.bin 1061 qiX (.bin 1059 qfH .nil .nil) (.bin 1062 qgs .nil .nil)))) (.bin 1071 qli (.bin 1067 qlg (.bin 1065 qg2 (.bin 1064 qle .nil .nil) (.bin 1066 qlf .nil .nil)) (.bin 1069 qlh (.bin 1068 qiY .nil .nil) (.bin 1070 qiZ .nil .nil))) (.bin 1075 F1075 (.bin 1073 qi0 (.bin 1072 qlj .nil .nil) (.bin 1074 qh7 .nil .nil)) (.bin 1077 F1077 (.bin 1076 qjV .nil .nil) (.bin 1078 qlk .nil .nil)))))
def HR(T:Tab):Prop:=∀n F,tabR.get n=some F→T.F n=some F
section
attribute [local simp ↓] qdZ qdX qdP qdY qdM qdQ qdN qdO sqK blK lpK qd4 qd2 qd0 qd3 qd1 qdI qdK qeu qdo qdm qdn qdr qcS qcT qcD qcG qcR qcV qcF qcW qcL qcN qcO qcP qcU qcQ qcE qcH qcj qcI qcM qdk qdh qcY qcX qc6 qcZ qbu qbC qc0 qc1 qd6 qcu qd5 qes qcz qdc qdd qc7 qc9 qc8 qcl qdl qcn qc3 qdg qdb qda qc5 qc4 qdf qdi qc2 qde qdJ qck qcy qdz qcw qbR qdA qco qcp qdj qbV qer qcJ qdp qdq qd8 qet qd7 qdR qdS qdT qdU qdV qdW qcK qdy qew qeP qeQ qeN qeO qeM qev qeT qeR qfn qeS qfs qfJ qcm
attribute [local simp] qbO qd9 qea qdE qdF qds qdt qep qeq qdB qdC rd IOp.adds qaq gh nid rgK rdS qdG qdH qeb qec qeg qeh qek qef qej qei qcC qcA qcB qee qed qdx qdw qem qel qen qeo qeC qeB qeE qeD qeH qeA qeI qfq qfj qfp qfo
section
attribute [local simp ↓] qbJ qbT qbx qeG qbS qfk qbt qbw qce qeV qeW qcq qcr qbv qey qbz qe0 qeZ qe6 qfi qeY qfg qff qbD qe2 qbX qe3 qe5 qe4 qe7 qe1 qe9 qfb qfe qfd qfc qe8 qfa qfh qex qeX
attribute [local simp] qby qbe writeS touchS qaD qa4 chg qbm qbb qaY qbc PV.refs PV.refsL IOp.okD IOp.barr qb2 Nat.testBit
attribute [local simp] gc Fr.keep qaf qae qad PV.refs PV.refsL qaj gcH qai Obj.refs PV.ren PV.renL Obj.ren Heap.obj Fr.ren gh zzd
attribute [local simp ↓] qaZ qbk qaA qaC qaB
attribute [local simp] putAt mkA qal qax qaH qay Fr.ofArgs
theorem qgr(T:Tab)(hR:HR T)(n:Int)(h0 : -9223372036854775808≤n)(h1:n<9223372036854775808):T.val 1052 [I n]=some (.d (Wd n).dv,false):=by
 obtain⟨r,hr⟩:∃r:Option (PV×Bool),some (.d (Wd n).dv,false)=r:=⟨_,rfl⟩;rw[qab T (hR 1052 qjS rfl) rfl,hr];by_cases h:n<0
 ·simp[qjS,h];exact qqR hr (by omega) (by rw[wU])
 ·simp[qjS,h];exact qqR hr (by omega) (by rw[wU])
theorem qqQ{A B z:Int}{b:Bool}{r:Option (PV×Bool)}(h:some (PV.t [.d (.b b),.d (Sz z).dv],false)=r)(h1:A=z/18446744073709551616)(h2:B=z%18446744073709551616):some (PV.t [.d (.b b),.d (.a [.i .u64 A,.i .u64 B])],false)=r:=by rw[sz0 h1 h2];exact h
theorem qkW(T:Tab)(hR:HR T)(z:Int)(h0 : -170141183460469231731687303715884105728≤z)(h1:z<170141183460469231731687303715884105728):T.val 1061 [(Wd z).dv]=some (.t [.d (.b (decide (z<0))),.d (Sz (aI z)).dv],false):=by
 obtain⟨a,ea,a1,a2⟩:=qfG z;obtain⟨r,hr⟩:∃r:Option (PV×Bool),some (.t [.d (.b (decide (z<0))),.d (Sz (aI z)).dv],false)=r:=⟨_,rfl⟩;rw[qab T (hR 1061 qiX rfl) rfl,ea,hr];have e1:=qkZ (n:=a.Lo) (by omega) (by omega)
 have e2:=qkZ (n:=IntKind.u64.wrap a.Hi) (by rw[wU];omega) (by rw[wU];omega)
 by_cases h:z<0
 ·have g:¬0≤a.Hi:=by omega
  rw[decide_eq_true h]at hr;by_cases g0:a.Lo=0
  ·have e3:IntKind.u64.wrap (18446744073709551615-a.Lo+1)=0:=by rw[wU];omega
   simp[qiX,g,↓qas e1,↓qas e2,e3];refine qqQ hr ?_ ?_
   ·simp only[wU,qeL h];omega
   ·simp only[qeL h];omega
  ·have e3:(IntKind.u64.wrap (18446744073709551615-a.Lo+1)==0)=false:=by rw[wU];exact zzO.2 (by omega)
   simp[qiX,g,↓qas e1,↓qas e2,e3];refine qqQ hr ?_ ?_
   ·simp only[wU,qeL h];omega
   ·simp only[wU,qeL h];omega
 ·have g:0≤a.Hi:=by omega
  rw[decide_eq_false h]at hr;simp[qiX,g];refine qqQ hr ?_ ?_
  ·rw[wU,qgN h];omega
  ·rw[qgN h,a2]
theorem qm3(T:Tab)(hR:HR T)(x y:Int)(x0:0≤x)(x1:x<340282366920938463463374607431768211456)(y0:0≤y)(y1:y<340282366920938463463374607431768211456):T.val 1067 [(Sz x).dv,(Sz y).dv]=some (.t [.d (Sz ((x+y)%340282366920938463463374607431768211456)).dv,.d (.b (decide (x+y<340282366920938463463374607431768211456)))],false):=by
 obtain⟨a,ea,a1,a2⟩:=qf8 x;obtain⟨b,eb,b1,b2⟩:=qf8 y;rw[qab T (hR 1067 qlg rfl) rfl,ea,eb];have l:IntKind.u64.wrap (a.l+b.l)=(a.l+b.l)%18446744073709551616:=wU _
 have h:IntKind.u64.wrap (a.h+b.h)=(a.h+b.h)%18446744073709551616:=wU _
 by_cases g0:(a.l+b.l)%18446744073709551616<a.l<;>by_cases g1:a.h≤(a.h+b.h)%18446744073709551616<;>simp[qlg,l,h,g0,g1]
 all_goals refine⟨sz0 ?_ ?_,?_⟩<;>(try simp only[wU])<;>omega
theorem qyp(T:Tab)(hR:HR T)(x:Int)(x0:0≤x)(x1:x<340282366920938463463374607431768211456):T.val 1078 [(Sz x).dv]=some (.t [.d (Sz ((x+x)%340282366920938463463374607431768211456)).dv,.d (.b (decide (x+x<340282366920938463463374607431768211456)))],false):=by
 have e:=qm3 T hR x x x0 x1 x0 x1
 rw[qab T (hR 1078 qlk rfl) rfl];simp[qlk,e]
theorem qyo(T:Tab)(hR:HR T)(x y:Int)(x1:x<340282366920938463463374607431768211456)(y0:0≤y)(h:y≤x):T.val 1069 [(Sz x).dv,(Sz y).dv]=some (.d (Sz (x-y)).dv,false):=by
 obtain⟨a,ea,a1,a2⟩:=qf8 x;obtain⟨b,eb,b1,b2⟩:=qf8 y;rw[qab T (hR 1069 qlh rfl) rfl,ea,eb];by_cases g0:a.l<b.l<;>simp[qlh,g0]
 all_goals refine sz0 ?_ ?_<;>(try simp only[wU])<;>omega
theorem qJ3(T:Tab)(hR:HR T)(x y:Int):T.val 1068 [(Sz x).dv,(Sz y).dv]=some (.d (.b (decide (x<y))),false):=by
 obtain⟨a,ea,a1,a2⟩:=qf8 x;obtain⟨b,eb,b1,b2⟩:=qf8 y;rw[qab T (hR 1068 qiY rfl) rfl,ea,eb];rcases Int.lt_trichotomy a.h b.h with g|g|g
 ·simp[qiY,g];omega
 ·simp[qiY,g];omega
 ·have g0:¬a.h<b.h:=by omega
  have g1:(a.h==b.h)=false:=zzO.2 (by omega)
  simp[qiY,g0,g1];omega
theorem qm4(T:Tab)(hR:HR T)(x:Int)(n:Bool)(x0:0≤x)(x1:x<170141183460469231731687303715884105728):T.val 1070 [.b n,(Sz x).dv]=some (.t [.d (Wd (if n=true then -x else x)).dv,.d (.b true)],false):=by
 obtain⟨a,ea,a1,a2⟩:=qf8 x;rw[qab T (hR 1070 qiZ rfl) rfl,ea];have e1:=qkZ (n:=a.l) (by omega) (by omega)
 have e2:=qkZ (n:=a.h) (by omega) (by omega)
 have g:a.h<9223372036854775808:=by omega
 cases n
 ·simp[qiZ,g];refine wd0 ?_ ?_<;>(try simp only[wI])<;>omega
 ·by_cases g0:a.l=0
  ·have e3:IntKind.u64.wrap (18446744073709551615-a.l+1)=0:=by rw[wU];omega
   simp[qiZ,g,↓qas e1,↓qas e2,e3];refine wd0 ?_ ?_<;>(try simp only[wU,wI])<;>omega
  ·have e3:(IntKind.u64.wrap (18446744073709551615-a.l+1)==0)=false:=by rw[wU];exact zzO.2 (by omega)
   simp[qiZ,g,↓qas e1,↓qas e2,e3];refine wd0 ?_ ?_<;>(try simp only[wU,wI])<;>omega
def sgn(n:Bool)(a:Int):Int:=if n=true then -a else a
theorem qyj(T:Tab)(hR:HR T)(a b:Int)(m n:Bool)(a0:0≤a)(a1:a≤170141183460469231731687303715884105728)(b0:0≤b)(b1:b≤170141183460469231731687303715884105728)
  (h0 : -170141183460469231731687303715884105728<sgn m a+sgn n b) (h1:sgn m a+sgn n b<170141183460469231731687303715884105728) :
  T.val 1062 [.b m,(Sz a).dv,.b n,(Sz b).dv]=some (.t [.d (Wd (sgn m a+sgn n b)).dv,.d (I 0)],false):=by
 have e1:=fun h=>qm3 T hR a b a0 (by omega) b0 h
 have e2:=qJ3 T hR a b
 have e3:=qm4 T hR
 have q1:∀x y:Int,-(x+y) = -x + -y:=by omega
 have q2:∀x y:Int,-(x-y) = -x+y:=by omega
 have q3:∀x y:Int,-(x-y)=y + -x:=by omega
 have q4:∀x y:Int,x-y = -y+x:=by omega
 rw[qab T (hR 1062 qgs rfl) rfl];by_cases g:a<b
 ·have e4:=qyo T hR b a (by omega) a0 (by omega)
  rw[decide_eq_true g]at e2;cases m<;>cases n<;>simp[sgn]at h0 h1⊢
  ·have e1:=e1 (by omega);rw[Int.emod_eq_of_lt (by omega) (by omega),decide_eq_true (by omega)]at e1
   have e5:=e3 (a+b) false (by omega) (by omega);simp at e5;simp[qgs,e1,e5]
  ·have e5:=e3 (b-a) true (by omega) (by omega);simp only[if_true,q3]at e5;simp[qgs,e2,e4,e5]
  ·have e5:=e3 (b-a) false (by omega) (by omega);simp only[zzg,if_false]at e5;rw[q4]at e5;rw[q4]at e4;simp[qgs,e2,e4,e5]
  ·have e1:=e1 (by omega);rw[Int.emod_eq_of_lt (by omega) (by omega),decide_eq_true (by omega)]at e1
   have e5:=e3 (a+b) true (by omega) (by omega);simp only[if_true,q1]at e5;simp[qgs,e1,e5]
 ·have e4:=qyo T hR a b (by omega) b0 (by omega)
  rw[decide_eq_false g]at e2;cases m<;>cases n<;>simp[sgn]at h0 h1⊢
  ·have e1:=e1 (by omega);rw[Int.emod_eq_of_lt (by omega) (by omega),decide_eq_true (by omega)]at e1
   have e5:=e3 (a+b) false (by omega) (by omega);simp at e5;simp[qgs,e1,e5]
  ·have e5:=e3 (a-b) false (by omega) (by omega);simp only[zzg,if_false]at e5;rw[Int.sub_eq_add_neg]at e4 e5;simp[qgs,e2,e4,e5]
  ·have e5:=e3 (a-b) true (by omega) (by omega);simp only[if_true,q2]at e5;simp[qgs,e2,e4,e5]
  ·have e1:=e1 (by omega);rw[Int.emod_eq_of_lt (by omega) (by omega),decide_eq_true (by omega)]at e1
   have e5:=e3 (a+b) true (by omega) (by omega);simp only[if_true,q1]at e5;simp[qgs,e1,e5]
theorem qh3(z:Int):sgn (decide (z<0)) (aI z)=z:=by unfold sgn aI;by_cases h:z<0<;>simp[h]
theorem qs9(z:Int):sgn (!decide (z<0)) (aI z) = -z:=by unfold sgn aI;by_cases h:z<0<;>simp[h]
theorem qyf(T:Tab)(hR:HR T)(x y:Int)(x0 : -170141183460469231731687303715884105728≤x)(x1:x<170141183460469231731687303715884105728)(y0 : -170141183460469231731687303715884105728≤y)(y1:y<170141183460469231731687303715884105728)
  (h0 : -170141183460469231731687303715884105728<x+y) (h1:x+y<170141183460469231731687303715884105728):T.val 1053 [(Wd x).dv,(Wd y).dv]=some (.t [.d (Wd (x+y)).dv,.d (I 0)],false):=by
 have e1:=qkW T hR x x0 x1
 have e2:=qkW T hR y y0 y1
 have e3:=qyj T hR (aI x) (aI y) (decide (x<0)) (decide (y<0)) (by unfold aI;split<;>omega) (by unfold aI;split<;>omega) (by unfold aI;split<;>omega) (by unfold aI;split<;>omega) (by rw[qh3,qh3];exact h0) (by rw[qh3,qh3];exact h1)
 rw[qh3,qh3]at e3;rw[qab T (hR 1053 qlb rfl) rfl];simp[qlb,e1,e2,e3]
theorem qtl(T:Tab)(hR:HR T)(x y:Int)(x0 : -170141183460469231731687303715884105728≤x)(x1:x<170141183460469231731687303715884105728)(y0 : -170141183460469231731687303715884105728≤y)(y1:y<170141183460469231731687303715884105728)
  (h0 : -170141183460469231731687303715884105728<x-y) (h1:x-y<170141183460469231731687303715884105728):T.val 1055 [(Wd x).dv,(Wd y).dv]=some (.t [.d (Wd (x-y)).dv,.d (I 0)],false):=by
 have e1:=qkW T hR x x0 x1
 have e2:=qkW T hR y y0 y1
 have q:x + -y=x-y:=rfl
 have e3:=qyj T hR (aI x) (aI y) (decide (x<0)) (!decide (y<0)) (by unfold aI;split<;>omega) (by unfold aI;split<;>omega) (by unfold aI;split<;>omega) (by unfold aI;split<;>omega) (by rw[qh3,qs9];exact h0) (by rw[qh3,qs9];exact h1)
 rw[qh3,qs9,q]at e3;rw[qab T (hR 1055 qlc rfl) rfl];simp[qlc,e1,e2,e3]
end
end
theorem qbj(v:Int)(h0:0≤v)(h1:v<18446744073709551616):qaN .and (.d (.i .u64 v)) (.d (.i .u64 9223372036854775808))=some (.i .u64 (if 9223372036854775808≤v then 9223372036854775808 else 0)):=by
 obtain⟨k,rfl⟩:=Int.eq_ofNat_of_zero_le h0;show some (DV.i .u64 (IntKind.u64.wrap (BitVec.ofInt 64 (k:Int) &&& BitVec.ofInt 64 9223372036854775808).toNat))=_
 have e:BitVec.ofInt 64 9223372036854775808=BitVec.ofNat 64 (2^63):=by decide
 have e2:k &&& 2^63=if 2^63≤k then 2^63 else 0:=by
  apply Nat.eq_of_testBit_eq
  intro i;rw[Nat.testBit_and,Nat.testBit_two_pow];by_cases hi:63=i
  ·subst hi;have e3:k.testBit 63=decide (2^63≤k):=by
    rw[Nat.testBit_eq_decide_div_mod_eq];exact decide_eq_decide.2 (by omega)
   rw[e3];by_cases h:2^63≤k
   ·rw[if_pos h,Nat.testBit_two_pow];simp[h]
   ·rw[if_neg h];simp[h]
  ·by_cases h:2^63≤k
   ·rw[if_pos h,Nat.testBit_two_pow];simp[hi]
   ·rw[if_neg h];simp[hi]
 rw[e,BitVec.ofInt_natCast,BitVec.toNat_and,BitVec.toNat_ofNat,BitVec.toNat_ofNat,Nat.mod_eq_of_lt (by omega),Nat.mod_eq_of_lt (by decide),e2,wU]
 by_cases h:9223372036854775808≤(k:Int)
 ·rw[if_pos h,if_pos (by omega)];rfl
 ·rw[if_neg h,if_neg (by omega)];rfl
structure Tms (m n:Int) (s:Nat) (v o w P Q:Int):Prop where
 s1:s≤64
 w0:0≤w
 w1:w<P
 o0:0≤o
 e:o*P+m*w=m*n
 v:v=w*Q
 pq:P*Q=18446744073709551616
 p0:0<P
 q0:0<Q
 pp:P=2^(64-s)
theorem Tms.step{m n:Int}{s:Nat}{v o w P Q:Int}(h:Tms m n s v o w P Q)(hs:s<64)(m0:0≤m)(m1:m<18446744073709551616)(n0:0≤n)(n1:n<18446744073709551616) :
  0≤v∧v<18446744073709551616∧o+o<340282366920938463463374607431768211456∧(9223372036854775808≤v→o+o+m<340282366920938463463374607431768211456) ∧
  ∃w' P',Tms m n (s+1) (v*2^1%18446744073709551616) (if 9223372036854775808≤v then o+o+m else o+o) w' P' (Q*2):=by
 obtain⟨s1,w0,w1,o0,e,hv,pq,p0,q0,pp⟩:=h;obtain⟨p,hp,hp0,hpp⟩:∃p,P=p*2∧0<p∧p=2^(64-(s+1)):=by
  refine⟨2^(64-(s+1)),?_,Int.pow_pos (by decide),rfl⟩
  rw[pp,←Int.pow_succ];congr 1;omega
 subst hp;have mn:m*n<340282366920938463463374607431768211456:=by
  have:=Int.mul_le_mul (show m≤18446744073709551615 by omega) (show n≤18446744073709551615 by omega) n0 (by omega)
  omega
 have mw:0≤m*w:=Int.mul_nonneg m0 w0
 have v0:0≤v:=by rw[hv];exact Int.mul_nonneg w0 (by omega)
 have pq':p*Q*2=18446744073709551616:=by rw[←pq];ac_rfl
 have v1:v<18446744073709551616:=by
  rw[hv,←pq];exact Int.mul_lt_mul_of_pos_right w1 q0
 have oo:o+o≤(o+o)*p:=by
  have:=Int.mul_le_mul_of_nonneg_left (show 1≤p by omega) (show 0≤o+o by omega);omega
 have e1:(o+o)*p=o*(p*2):=by rw[←Int.two_mul];ac_rfl
 have bit:9223372036854775808≤v↔p≤w:=by
  have hh:(9223372036854775808:Int)=p*Q:=by omega
  rw[hv,hh];exact⟨fun g=>Int.not_lt.1 fun g'=>absurd (Int.mul_lt_mul_of_pos_right g' q0) (by omega),fun g=>Int.mul_le_mul_of_nonneg_right g (by omega)⟩
 have hd:v*2^1=w*(Q*2):=by rw[hv];ac_rfl
 refine⟨v0,v1,by omega,?_,?_⟩
 ·intro hb;have hw:=bit.1 hb
  have:=Int.mul_le_mul_of_nonneg_left hw m0
  have e2:(o+o+m)*p=o*(p*2)+m*p:=by rw[Int.add_mul,e1]
  have:=Int.mul_le_mul_of_nonneg_left (show 1≤p by omega) (show 0≤o+o+m by omega)
  omega
 ·by_cases hb:9223372036854775808≤v
  ·have hw:=bit.1 hb
   refine⟨w-p,p,⟨by omega,by omega,by omega,by rw[if_pos hb];omega,?_,?_,by rw[←pq];ac_rfl,hp0,by omega,hpp⟩⟩
   ·rw[if_pos hb,Int.add_mul,e1,Int.mul_sub];omega
   ·rw[hd,Int.sub_mul];have:p*(Q*2)=18446744073709551616:=by rw[←pq];ac_rfl
    have a:w*(Q*2)=v*2:=by rw[hv];ac_rfl
    omega
  ·have hw:¬p≤w:=fun h=>hb (bit.2 h)
   refine⟨w,p,⟨by omega,w0,by omega,by rw[if_neg hb];omega,?_,?_,by rw[←pq];ac_rfl,hp0,by omega,hpp⟩⟩
   ·rw[if_neg hb,e1];exact e
   ·rw[hd];have a:w*(Q*2)=v*2:=by rw[hv];ac_rfl
    omega
end Go.Sim
