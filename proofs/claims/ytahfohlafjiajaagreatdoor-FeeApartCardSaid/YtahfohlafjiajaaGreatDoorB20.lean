/- Part 20 of the proof: CbH3, CbH4, CbH5, CbH6, CbX3, CbV25E, CbJ1, CbJ2, CbH7, CbH8, CbJ3, CbH9, CbHa, CbHb, CbHc, CbHd, CbJ4, CbX4, CbV28A, CbZ1, CbX4b, CbX5, CbX6, CbX7, CbZ2, CbX9, CbXa, CbXb0, CbXb, CbX8, CbHe, CbHf, CbHg, CbJ5, CbJ6, CbJ7, CbJ8, CbJ9, CbXg, CbZ3, CbZ4, CbZ5, CbZ6. -/
import Derived.Test.YtahfohlafjiajaaGreatDoorB19
import Derived.Test.YtahfohlafjiajaaGreatDoorB6
import Derived.Test.YtahfohlafjiajaaGreatDoorB7
import Derived.Test.YtahfohlafjiajaaGreatDoorB8
section
open Go.Sim
attribute [local simp ↓] qeM qdM qez qd6 qdv qdm qdx qeN sqK blK lpK qdb qdj qe9 qeH qeo qdC qeh qdo qdw qe0 qc7 qeP qdd qeE qd3 qeS qeB qeQ qd1 qdJ qec qeL qdg qfa qc9 qdS qdP qef qdV qe5 qe7 qdt qeG qeV qd7 qei qeu qco qcD qdL qdW qep qcL qey qdA qcT qej qdu qdf qdl qdB qc1 qdi qcX qda qdF qeU qex qdK qdE qe8 qc8 qet qeO qdn qcO qc0 qd2 qdh qcw qen qcZ qc2 qdO qcj qeY qeW qeZ qew qdU qeF qe3 qdk qdy qdq qe4 qd9 qdI qds qee qfd
attribute [local simp] qcf qdH qea qdG qev qel qc5 qe1 qd0 qdT qeC rd IOp.adds qan gh nid rgK rdS qe6 qdD qdZ qdQ qdY qeT qdc qdp qdz qeD qd4 qer qeq qdN qc6 qeA qes qek qem qdR qe2 qff qfb qfi qcl qfn qfh qfm
section
namespace Go.Sim
set_option maxRecDepth 10000
set_option maxHeartbeats 4000000
def qam {α β:Type} (f:Nat→β→α→β):Nat→β→List α→β
  | _,b,[]=>b
  |i,b,x::r=>qam f (i+1) (f i b x) r
theorem qiO {α β R:Type} (f:Nat→β→α→β) (done:β→Option R) (step:Nat→β→α→(β→Option R)→Option R) (hs : ∀i b x c,step i b x c=c (f i b x)) : ∀(i:Nat) (b:β) (ls:List α),qcB step done i b ls=done (qam f i b ls)
  |i,b,[]=>rfl
  |i,b,x::l=>by rw[qcB,hs,qam,qiO f done step hs (i+1)]
theorem qtc {α β:Type} (f:Nat→β→α→β) (P:Nat→β→Prop) (h : ∀i b x,P i b→P (i+1) (f i b x)) : ∀(l:List α) (i:Nat) (b:β),P i b→P (i+l.length) (qam f i b l)
  | [],i,b,hb=>hb
  |x::l,i,b,hb=>by
    have:=qtc f P h l (i+1) (f i b x) (h i b x hb)
    rw[zzn,show i+(l.length+1)=i+1+l.length by omega]
    exact this
def frm (l:List AProduct) (b:Int):Int:=match l[b.toNat]? with|some p=>p.From|none=>0
def cAt (l:List AProduct) (nm:List UInt8) (day b:Int) (p:AProduct):Bool:=(p.Name==nm)&&(decide (p.From≤day)&&(decide (b<0)||decide (frm l b<p.From)))
def fAt (l:List AProduct) (nm:List UInt8) (day:Int) (i:Nat) (b:Int) (p:AProduct):Int:=if cAt l nm day b p=true then (i:Int) else b
def bst (l:List AProduct) (nm:List UInt8) (day:Int):Int:=qam (fAt l nm day) 0 (-1) l
def inB (i:Nat) (b:Int):Prop:=b = -1∨∃j:Nat,b=(j:Int)∧j<i
theorem qqY (l:List AProduct) (nm:List UInt8) (day:Int) (i:Nat) (b:Int) (p:AProduct) (h:inB i b):inB (i+1) (fAt l nm day i b p):=by
  unfold fAt;split
  · exact .inr ⟨i,rfl,by omega⟩
  · rcases h with h|⟨j,h1,h2⟩
    · exact .inl h
    · exact .inr ⟨j,h1,by omega⟩
theorem qzS (l:List AProduct) (nm:List UInt8) (day:Int):inB l.length (bst l nm day):=by
  have:=qtc (fAt l nm day) inB (qqY l nm day) l 0 (-1) (.inl rfl)
  simpa[bst] using this
def atP (l:List AProduct) (nm:List UInt8) (day:Int):Option AProduct:=if bst l nm day<0 then none else l[(bst l nm day).toNat]?
theorem qvv (T:Tab) (l:List AProduct) (t:Bool) (nm:List UInt8) (day:Int) (hn:l.length≤maxLen) {k:KC (PV×Bool)} {fr:Fr} {H:Heap}
    (h0:gc [0,1,2,6,8,11,12,13] 0 ⟨fr,H⟩=⟨[(13,.d (I 0)),(12,.d (I l.length)),(11,.d (.l (K1 19) (l.map AProduct.dv) t)),(8,.d (I (-1))),(6,.p 0 0 0),(2,.d (I day)),(1,.d (.s nm)),(0,.d (.l (K1 19) (l.map AProduct.dv) t))],[some (.box (K1 19) (.d AProduct.zero.dv))]⟩) :
    kC T.env 0 fr H (.h (.loop [0,1,2,6,8,11,12,13] qjX,k))=k (.exit 0) [(14,.d (.b false)),(13,.d (I l.length)),(12,.d (I l.length)),(11,.d (.l (K1 19) (l.map AProduct.dv) t)),(8,.d (I (bst l nm day))),(6,.p 0 0 0),(2,.d (I day)),(1,.d (.s nm)),(0,.d (.l (K1 19) (l.map AProduct.dv) t))] [some (.box (K1 19) (.d AProduct.zero.dv))]:=by
  rw[qcH l (fun i b=>⟨[(13,.d (I i)),(12,.d (I l.length)),(11,.d (.l (K1 19) (l.map AProduct.dv) t)),(8,.d (I b)),(6,.p 0 0 0),(2,.d (I day)),(1,.d (.s nm)),(0,.d (.l (K1 19) (l.map AProduct.dv) t))],[some (.box (K1 19) (.d AProduct.zero.dv))]⟩) inB (fun i b x c=>c (fAt l nm day i b x)) (fun b=>k (.exit 0) [(14,.d (.b false)),(13,.d (I l.length)),(12,.d (I l.length)),(11,.d (.l (K1 19) (l.map AProduct.dv) t)),(8,.d (I b)),(6,.p 0 0 0),(2,.d (I day)),(1,.d (.s nm)),(0,.d (.l (K1 19) (l.map AProduct.dv) t))] [some (.box (K1 19) (.d AProduct.zero.dv))]) ?_ ?_ h0 (.inl rfl)]
  · rw[qiO (fAt l nm day) _ _ (fun _ _ _ _=>rfl)];rfl
  · intro B _ b _
    simp[qjX]
  · intro B _ i b hi hv c hc
    have hm:=mxl
    have h1:(i:Int)<l.length:=by omega
    have h3:=wr1 (i:=i) (by omega)
    have hs:=qqY l nm day i b l[i] hv
    rcases hv with rfl|⟨j,rfl,hj⟩
    · simp[qjX,h1,hi,↓qa4,↓qaR,↓qa6,↓qaT,qaU,↓qaS,↓qaP,↓qaZ,↓qa2,qaK,writeS,touchS,qak,qax,chg,qaI,qaF,qau,qaH,PV.refs,IOp.okD,Nat.testBit]
      repeat' (refine qbV (fun h => ?_) (fun h => ?_)<;>(try simp at h)<;>(try simp[h,h3,↓qa3,↓qaR,↓qa6,↓qaT,qaU,↓qaS,↓qbd,↓qaP,↓qaZ,↓qa2,↓qa8,qaK,writeS,touchS,qak,qax,chg,qaI,qaF,qau,qaH,PV.refs,PV.refsL,IOp.okD,Nat.testBit]))
      all_goals first
        | (have e:fAt l nm day i (-1) l[i]=(i:Int):=by simp[fAt,cAt, *]
           rw[e] at hs⊢;exact hc _ _ _ hs (by simp[gc,Fr.keep,qae,qac,qab,PV.refs,qad,gcH,qag,Obj.refs,PV.ren,Obj.ren,Heap.obj,Fr.ren,gh,zzd]))
        | (have e:fAt l nm day i (-1) l[i] = -1:=by simp[fAt,cAt, *]
           rw[e] at hs⊢;exact hc _ _ _ hs (by simp[gc,Fr.keep,qae,qac,qab,PV.refs,qad,gcH,qag,Obj.refs,PV.ren,Obj.ren,Heap.obj,Fr.ren,gh,zzd]))
    · have hj1:j<l.length:=by omega
      have hj2:(j:Int)<l.length:=by omega
      have hg:l[j]? = some l[j]:=zze hj1
      simp[qjX,h1,hi,↓qa4,↓qaR,↓qa6,↓qaT,qaU,↓qaS,↓qaP,↓qaZ,↓qa2,qaK,writeS,touchS,qak,qax,chg,qaI,qaF,qau,qaH,PV.refs,IOp.okD,Nat.testBit];repeat' (refine qbV (fun h => ?_) (fun h => ?_)<;>(try simp at h)<;>(try simp[h,h3,hj1,hj2,↓qa3,↓qaR,↓qa6,↓qaT,qaU,↓qaS,↓qbd,↓qaP,↓qaZ,↓qa2,↓qa8,qaK,writeS,touchS,qak,qax,chg,qaI,qaF,qau,qaH,PV.refs,PV.refsL,IOp.okD,Nat.testBit]))
      all_goals first
        | (have e:fAt l nm day i j l[i]=(i:Int):=by simp[fAt,cAt,frm, *]
           rw[e] at hs⊢;exact hc _ _ _ hs (by simp[gc,Fr.keep,qae,qac,qab,PV.refs,qad,gcH,qag,Obj.refs,PV.ren,Obj.ren,Heap.obj,Fr.ren,gh,zzd]))
        | (have e:fAt l nm day i j l[i]=j:=by
             simp[fAt,cAt,frm, *];try omega
           rw[e] at hs⊢;exact hc _ _ _ hs (by simp[gc,Fr.keep,qae,qac,qab,PV.refs,qad,gcH,qag,Obj.refs,PV.ren,Obj.ren,Heap.obj,Fr.ren,gh,zzd]))
theorem qEW (T:Tab) (hT:HU T) (l:List AProduct) (t:Bool) (nm:List UInt8) (day:Int) (hn:l.length≤maxLen):T.val 30 [.l (K1 19) (l.map AProduct.dv) t,.s nm,I day]=some (.t [.d ((atP l nm day).getD .zero).dv,.d (.b (atP l nm day).isSome)],false):=by
  rw[qaf T (hT 30 F30 rfl) rfl];have lp:=fun k fr H => @qvv T l t nm day hn k fr H
  simp[F30,Fr.ofArgs];refine (lp _ _ _ (by simp[gc,Fr.keep,qae,qac,qab,PV.refs,qad,gcH,qag,Obj.refs,PV.ren,Obj.ren,Heap.obj,Fr.ren,gh,zzd];rfl)).trans ?_
  have hb:=qzS l nm day
  unfold atP;generalize bst l nm day=b at hb⊢;rcases hb with rfl|⟨j,rfl,hj⟩
  · simp
    try rfl
  · have hj2:(j:Int)<l.length:=by omega
    have hg:l[j]? = some l[j]:=zze hj
    simp[hj,hj2];repeat' (refine qbV (fun h => ?_) (fun h => ?_)<;>(try simp at h)<;>(try simp[h,hj,hj2]))
end Go.Sim
end
section
namespace Go.Sim
set_option maxRecDepth 10000
set_option maxHeartbeats 4000000
def qeX (b:ABooks) (id day:Int):Option AProduct:=match qcE b id with|some a=>atP b.Products.l a.Product day|none=>none
theorem qwh (T:Tab) (hT:HU T) (b:ABooks) (id day:Int) (hb:b.ok):T.val 24 [b.dv,I id,I day]=some (.t [.d ((qeX b id day).getD .zero).dv,.d (.b (qeX b id day).isSome)],false):=by
 rw[qaf T (hT 24 F24 rfl) rfl];have e1:=qlu T hT b id hb
 have e2:=fun nm=>qEW T hT b.Products.l b.Products.t nm day (hb.2.2.2.2.1).1
 unfold qeX;cases hf:qcE b id with
 |none =>
  rw[hf] at e1;simp only[Option.getD_none,Option.isSome_none] at e1;simp[F24,Fr.ofArgs,e1];try rfl
 |some a =>
  rw[hf] at e1;simp only[Option.getD_some,Option.isSome_some] at e1;simp[F24,Fr.ofArgs,e1,e2]
def w64 (n:Int):Int:=IntKind.i64.wrap n
end Go.Sim
end
section
namespace Go.Sim
set_option maxRecDepth 10000
set_option maxHeartbeats 4000000
end Go.Sim
end
end
section
open Go.Sim
attribute [local simp ↓] qeM qdM qez qd6 qdv qdm qdx qeN sqK blK lpK qdb qdj qe9 qeH qeo qdC qeh qdo qdw qe0 qc7 qeP qdd qeE qd3 qeS qeB qeQ qd1 qdJ qec qeL qdg qfa qc9 qdS qdP qef qdV qe5 qe7 qdt qeG qeV qd7 qei qeu qco qcD qdL qdW qep qcL qey qdA qcT qej qdu qdf qdl qdB qc1 qdi qcX qda qdF qeU qex qdK qdE qe8 qc8 qet qeO qdn qcO qc0 qd2 qdh qcw qen qcZ qc2 qdO qcj qeY qeW qeZ qew qdU qeF qe3 qdk qdy qdq qe4 qd9 qdI qds qee qfd qfQ qfM qf1 qfV qfO qf3 qfZ qfU qfJ qfY qfP
attribute [local simp] qcf qdH qea qdG qev qel qc5 qe1 qd0 qdT qeC rd IOp.adds qan gh nid rgK rdS qe6 qdD qdZ qdQ qdY qeT qdc qdp qdz qeD qd4 qer qeq qdN qc6 qeA qes qek qem qdR qe2 qff qfb qfi qcl qfn qfh qfm qfR qfK qfS qfL
section
namespace Go.Sim
set_option maxRecDepth 10000
set_option maxHeartbeats 4000000
def qav (k:K):List DV→PV
  | []=>.d (.l k [] true)
  | _x::r=>.r 0 k 0 (r.length+1) false
def qbU (k:K):List DV→Heap
  | []=>[]
  |x::r=>[some (.sl k 0 (x::r))]
end Go.Sim
end
end
section
open Go.Sim
attribute [local simp ↓] qeM qdM qez qd6 qdv qdm qdx qeN sqK blK lpK qdb qdj qe9 qeH qeo qdC qeh qdo qdw qe0 qc7 qeP qdd qeE qd3 qeS qeB qeQ qd1 qdJ qec qeL qdg qfa qc9 qdS qdP qef qdV qe5 qe7 qdt qeG qeV qd7 qei qeu qco qcD qdL qdW qep qcL qey qdA qcT qej qdu qdf qdl qdB qc1 qdi qcX qda qdF qeU qex qdK qdE qe8 qc8 qet qeO qdn qcO qc0 qd2 qdh qcw qen qcZ qc2 qdO qcj qeY qeW qeZ qew qdU qeF qe3 qdk qdy qdq qe4 qd9 qdI qds qee qfd qfQ qfM qf1 qfV qfO qf3 qfZ qfU qfJ qfY qfP qgJ qfu
attribute [local simp] qcf qdH qea qdG qev qel qc5 qe1 qd0 qdT qeC rd IOp.adds qan gh nid rgK rdS qe6 qdD qdZ qdQ qdY qeT qdc qdp qdz qeD qd4 qer qeq qdN qc6 qeA qes qek qem qdR qe2 qff qfb qfi qcl qfn qfh qfm qfR qfK qfS qfL
section
namespace Go.Sim
set_option maxRecDepth 10000
set_option maxHeartbeats 4000000
def qb3 (k:K) (bs:Heap):List DV→Heap
 | []=>bs
 |x::r=>some (.sl k 0 (x::r))::bs
def pB (i:Nat):List DV→PV
 | []=>.p i 0 0
 | _::_=>.p (i+1) 0 0
theorem qqf {α:Type} (f:α→DV) (l:List α) (i:Nat) (h:i<l.length):(l.take (i+1)).map f=(l.take i).map f++[f l[i]]:=by
 rw[List.take_succ_eq_append_getElem h,List.map_append,zzu,List.map_nil]
theorem qBa (T:Tab) (op:Int) (vs:List AValue) (t:Bool) (z:DV) (hn:vs.length*56≤140737488355328) {k:KC (PV×Bool)} {r:Option (PV×Bool)} {fr:Fr} {H:Heap}
  (he:k (.exit 0) [(19,.d (.b false)),(18,.d (I vs.length)),(17,.d (I vs.length)),(16,.d (.l (K1 2) (vs.map AValue.dv) t)),(6,qav K0 (vs.map fun v=>I v.Typ)),(4,pB 0 (vs.map fun v=>I v.Typ)),(1,.d (.l (K1 2) (vs.map AValue.dv) t)),(0,.d (I op))] (qb3 K0 [some (.box (K1 2) (.d z))] (vs.map fun v=>I v.Typ))=r)
  (h0:gc [0,1,4,6,16,17,18] 0 ⟨fr,H⟩=⟨[(18,.d (I 0)),(17,.d (I vs.length)),(16,.d (.l (K1 2) (vs.map AValue.dv) t)),(6,.d (.l K0 [] true)),(4,.p 0 0 0),(1,.d (.l (K1 2) (vs.map AValue.dv) t)),(0,.d (I op))],[some (.box (K1 2) (.d z))]⟩) :
  kC T.env 0 fr H (.h (.loop [0,1,4,6,16,17,18] qkY,k))=r:=by
 refine qhP (fun p:Nat×List DV=>⟨[(18,.d (I p.1)),(17,.d (I vs.length)),(16,.d (.l (K1 2) (vs.map AValue.dv) t)),(6,qav K0 p.2),(4,pB 0 p.2),(1,.d (.l (K1 2) (vs.map AValue.dv) t)),(0,.d (I op))],qb3 K0 [some (.box (K1 2) (.d z))] p.2⟩) (fun i=>(i,(vs.take i).map fun v=>I v.Typ)) vs.length ?_ ?_ (by rw[h0];rfl)
 ·intro B _;simp only[List.take_length];rw[←he];have h1 : ¬((vs.length:Int)<vs.length):=by omega
  simp[qkY]
 ·intro B _ i hi c hc;have h1:(i:Int)<vs.length:=by omega
  have h3:=wr1 (i:=i) (by omega)
  have hl:((vs.take i).map fun v=>I v.Typ).length≤i:=by simp;omega
  simp only[qqf (fun v:AValue=>I v.Typ) vs i hi] at hc
  simp only;generalize (vs.take i).map (fun v=>I v.Typ)=o at *
  cases o with
  |nil =>
   simp only[qav,qb3,pB,List.nil_append] at hc⊢;simp[qkY,h1,hi,h3];exact hc _ _ (by simp[gc,Fr.keep,qae,qac,qab,PV.refs,qad,gcH,qag,Obj.refs,PV.ren,Obj.ren,Heap.obj,Fr.ren,gh,zzd])
  |cons x o =>
   simp only[qav,qb3,pB,List.cons_append] at hc⊢;simp only[zzn] at hl;have h5:(o.length+1+1)*8≤140737488355328:=by omega
   have ht:o.take o.length=o:=List.take_of_length_le (by simp)
   simp[qkY,h1,hi,h3,h5,ht];exact hc _ _ (by simp[gc,Fr.keep,qae,qac,qab,PV.refs,qad,gcH,qag,Obj.refs,PV.ren,Obj.ren,Heap.obj,Fr.ren,gh,zzd])
theorem qv9 (T:Tab) (hT:HT T) (op w:Int) (vs:List AValue) (t:Bool) (z:DV) (hn:vs.length*56≤140737488355328) {k:KC (PV×Bool)} {r:Option (PV×Bool)} {fr:Fr} {H:Heap}
  (he:vs.all okV=true→k (.exit 2) [(40,.d (.b false)),(39,.d (I vs.length)),(38,.d (I vs.length)),(37,.d (.l (K1 2) (vs.map AValue.dv) t)),(9,.d (I w)),(4,.p 0 0 0),(1,.d (.l (K1 2) (vs.map AValue.dv) t)),(0,.d (I op))] [some (.box (K1 2) (.d z))]=r)
  (hr:vs.all okV=false→∀fr J,fr.get 4 = .p 0 0 0→fr.get 5 = .d (I 1)→qaz fr=[]→k .ret fr (some (.box (K1 2) (.d (.a [I 0,I 0])))::J)=r)
  (h0:gc [0,1,4,9,37,38,39] 0 ⟨fr,H⟩=⟨[(39,.d (I 0)),(38,.d (I vs.length)),(37,.d (.l (K1 2) (vs.map AValue.dv) t)),(9,.d (I w)),(4,.p 0 0 0),(1,.d (.l (K1 2) (vs.map AValue.dv) t)),(0,.d (I op))],[some (.box (K1 2) (.d z))]⟩) :
  kC T.env 0 fr H (.h (.loop [0,1,4,9,37,38,39] qk7,k))=r:=by
 refine qcN (fun i:Nat=>⟨[(39,.d (I i)),(38,.d (I vs.length)),(37,.d (.l (K1 2) (vs.map AValue.dv) t)),(9,.d (I w)),(4,.p 0 0 0),(1,.d (.l (K1 2) (vs.map AValue.dv) t)),(0,.d (I op))],[some (.box (K1 2) (.d z))]⟩) (fun i=>i≤vs.length∧(vs.take i).all okV=true) (fun i=>vs.length-i) ?_ 0 ⟨Nat.zero_le _,by simp⟩ h0
 rintro B-i ⟨hi,ha⟩ hx;by_cases hlt:i<vs.length
 ·have h1:(i:Int)<vs.length:=by omega
  have h3:=wr1 (i:=i) (by omega)
  have e:=qqz T hT vs[i]
  cases hk:okV vs[i] with
  |true =>
   rw[hk] at e;have hx':=hx (i+1) ⟨by omega,by rw[List.take_succ_eq_append_getElem hlt,List.all_append,ha];simp[hk]⟩ (by omega)
   simp[qk7,h1,hlt,e,h3];exact hx' _ _ (by simp[gc,Fr.keep,qae,qac,qab,PV.refs,qad,gcH,qag,Obj.refs,PV.ren,Obj.ren,Heap.obj,Fr.ren,gh,zzd])
  |false =>
   rw[hk] at e;have hf:vs.all okV=false:=by
    rw[List.all_eq_false];exact⟨vs[i],zzs hlt,by simp[hk]⟩
   have hr':=hr hf
   simp[qk7,h1,hlt,e,↓qaA,↓qaE,mkA,qal];exact hr' _ _ (by simp[Fr.get]) (by simp[Fr.get]) (by simp[qaz,gh])
 ·have:i=vs.length:=by omega
  subst this;rw[List.take_length] at ha;have he':=he ha
  have h1 : ¬((vs.length:Int)<vs.length):=by omega
  simp[qk7];exact he'
def chP (op:Int):List AValue→Int
 | [a]=>IntKind.i64.wrap (1-a.N)
 | [a,b]=>qg5 op a.N b.N
 | [a,b,c]=>if a.N=1 then b.N else c.N
 | _=>0
def clP (op:Int):List AValue→Int×Int
 | [a]=>qb2 (-a.N)
 | [a,b]=>qiB op a b
 | _=>(0,0)
def qiG (w:Int) (ok:Bool) (op:Int) (vs:List AValue):AValue×Int :=
 if ok=false then (⟨0,0⟩,3) else if vs.all okV=false then (⟨0,0⟩,1)
 else if op<5∨9<op then (⟨w,chP op vs⟩,0)
 else if (clP op vs).2=0 then (if okV ⟨w,(clP op vs).1⟩=true then (⟨w,(clP op vs).1⟩,0) else (⟨0,0⟩,6))
 else (⟨0,0⟩,(clP op vs).2)
def qgr (op:Int) (vs:List AValue):AValue×Int:=qiG (qb9 op (vs.map (·.Typ))).1 (qb9 op (vs.map (·.Typ))).2 op vs
def qbi (p:AValue×Int):PV×Bool:=(.t [.d p.1.dv,.d (I p.2)],false)
theorem qus {op a b:Int} : ∀{l},(∀x∈l,(5:Int)≤x.1.1∧x.1.1≤8)→arF l op a b≠none→5≤op∧op≤8
 | [],_,h=>absurd rfl h
 |x::r,hl,h=>by
  rw[arF] at h;by_cases c:op=x.1.1∧a=x.1.2.1∧b=x.1.2.2
  ·have:=hl x (by simp)
   omega
  ·rw[if_neg c] at h;exact qus (fun y hy=>hl y (by simp[hy])) h
theorem qsk {op a b:Int} (h:arV op a b≠0):5≤op∧op≤8:=by
 apply qus (l:=arL) (a:=a) (b:=b)
 ·decide
 ·intro c;rw[arV,c] at h;exact h rfl
theorem qqV {op a b:Int} (h:(qcU op a b).2=true):op≠9∧op≠16∧op≠19:=by
 unfold qcU at h;by_cases h1:op=10∨op=11
 ·omega
 rw[if_neg h1] at h;by_cases h2:op=12∨op=13
 ·omega
 rw[if_neg h2] at h;by_cases h3:op=14∨op=15
 ·omega
 rw[if_neg h3] at h;by_cases h4:op=17∨op=18
 ·omega
 rw[if_neg h4] at h;have h:arV op a b≠0:=by simpa using h
 have:=qsk h
 omega
theorem qsf {op a:Int} (h:(qdX op a).2=true):op=9∨op=16:=by
 unfold qdX at h;by_cases h1:op=16
 ·exact .inr h1
 ·rw[if_neg h1] at h;by_cases h2:op=9
  ·exact .inl h2
  ·rw[if_neg h2] at h;cases h
theorem qA1 (T:Tab) (hT:HT T) (op:Int) (vs:List AValue) (t:Bool) (hi : ∀v∈vs,v.i) (h:(qb9 op (vs.map (·.Typ))).2=true) :
  ((op<5∨9<op)→T.val 983 [I op,.l (K1 2) (vs.map AValue.dv) t]=some (.d (I (chP op vs)),false))∧(¬(op<5∨9<op)→T.val 984 [I op,.l (K1 2) (vs.map AValue.dv) t]=some (two (clP op vs))):=by
 unfold qb9 at h;by_cases ha:(vs.map (·.Typ)).all qd8=true
 ·rw[if_pos ha] at h;match vs,hi,h with
  | [],_,h=>cases h
  | [a],hi,h =>
   simp only[zzu,List.map_nil] at h⊢;have ho:(qdX op a.Typ).2=true:=by
    by_cases c:(qdX op a.Typ).2=true
    ·exact c
    ·rw[if_neg c] at h;cases h
   have:=qsf ho
   refine⟨fun h1 => ?_,fun h1 => ?_⟩
   ·have:op=16:=by omega
    subst this;exact qya T hT a t
   ·have:op=9:=by omega
    subst this;exact qEp T hT a t (hi a (by simp))
  | [a,b],hi,h =>
   simp only[zzu,List.map_nil] at h⊢;have ho:(qcU op a.Typ b.Typ).2=true:=by
    by_cases c:(qcU op a.Typ b.Typ).2=true
    ·exact c
    ·rw[if_neg c] at h;cases h
   obtain⟨o1,o2,o3⟩:=qqV ho;exact⟨fun _=>qxm T hT op a b t o2 o3,fun _=>qAY T hT op a b t (hi a (by simp)) (hi b (by simp)) o1⟩
  | [a,b,c],hi,h =>
   simp only[zzu,List.map_nil] at h⊢;have ho:op=19:=by
    by_cases c':op=19∧a.Typ=5∧b.Typ=c.Typ
    ·exact c'.1
    ·rw[if_neg c'] at h;cases h
   subst ho;exact⟨fun _=>qyJ T hT a b c t,fun h1=>absurd (.inr (by decide)) h1⟩
  | _::_::_::_::_,_,h=>cases h
 ·rw[if_neg ha] at h;cases h
theorem qed (l:List DV):(PV.d (.a l)).cells=l.map .d:=rfl
theorem qbR (l:List DV):DV.cells (.a l)=l:=rfl
theorem qhJ {R:Type} {a b:DV} {q:PV→Option R}:bo (mkP (K1 2) [.d a,.d b]) (.h q)=q (.d (.a [a,b])):=rfl
theorem qBO (T:Tab) (hT:HT T) (hA:HA T) (op:Int) (vs:List AValue) (t:Bool) (hn:vs.length*56≤140737488355328) (hi : ∀v∈vs,v.i):T.val 967 [I op,.l (K1 2) (vs.map AValue.dv) t]=some (qbi (qgr op vs)):=by
 have lp0:=fun k r fr H => @qBa T op vs t (.a [I 0,I 0]) hn k r fr H
 have lp1:=fun w k r fr H => @qv9 T hT op w vs t (.a [I 0,I 0]) hn k r fr H
 have hm:=mxl
 have e411:=qmq T hT hA op (vs.map (·.Typ)) false (by rw[zzo,hm];omega)
 have e411t:=qmq T hT hA op (vs.map (·.Typ)) true (by rw[zzo,hm];omega)
 rw[List.map_map] at e411 e411t;have hp:=qA1 T hT op vs t hi
 unfold qgr;have hmm:((fun n=>I n)∘fun v:AValue=>v.Typ)=fun v:AValue=>I v.Typ:=rfl
 rw[hmm] at e411 e411t;generalize qb9 op (vs.map (·.Typ))=p at *
 obtain⟨w,ok⟩:=p;unfold qbk at e411 e411t;simp only at hp e411 e411t⊢;obtain⟨r,hr⟩ : ∃r,some (qbi (qiG w ok op vs))=r:=⟨_,rfl⟩;rw[qaf T (hT 967 qjV rfl) rfl,hr];simp[qjV,Fr.ofArgs];refine lp0 _ _ _ _ ?_ (by simp[gc,Fr.keep,qae,qac,qab,PV.refs,qad,gcH,qag,Obj.refs,PV.ren,Obj.ren,Heap.obj,Fr.ren,gh,zzd])
 cases ho:vs.map (fun v=>I v.Typ) with
 |nil =>
  have hv:vs=[]:=by simpa using ho
  subst hv;simp only[List.map_nil] at e411t;cases ok with
  |false =>
   rw[qiG,if_pos rfl] at hr;rw[←hr];simp[qav,qb3,pB,e411t,↓qaA,↓qaE,mkA,qal,qbi,AValue.dv]
  |true =>
   exfalso
   have:=e411t
   have e0:=qmq T hT hA op [] true (by simp)
   simp only[List.map_nil] at e0;rw[e0] at this;simp[qb9,qbk] at this
 |cons x o =>
  rw[ho] at e411;have ht:o.take o.length=o:=List.take_of_length_le (by simp)
  cases ok with
  |false =>
   rw[qiG,if_pos rfl] at hr;rw[←hr];simp[qav,qb3,pB,ht,qbb,pur,qbO,PV.scal,PV.scal1,DV.scal,DV.scal1,e411,↓qaA,↓qaE,mkA,qal,qbi,AValue.dv]
  |true =>
   obtain⟨p1,p2⟩:=hp rfl;rw[qiG,if_neg (by decide)] at hr
   simp[qav,qb3,pB,ht,qbb,pur,qbO,PV.scal,PV.scal1,DV.scal,DV.scal1,e411];refine lp1 w _ _ _ _ (fun ha => ?_) (fun ha fr J f4 f5 fg => ?_) (by simp[gc,Fr.keep,qae,qac,qab,PV.refs,qad,gcH,qag,Obj.refs,PV.ren,Obj.ren,Heap.obj,Fr.ren,gh,zzd])
   ·rw[if_neg (by rw[ha];decide)] at hr
    by_cases h5:op<5
    ·rw[if_pos (.inl h5)] at hr;rw[←hr];have e:=p1 (.inl h5)
     simp[h5,e,↓qaA,↓qaE,↓qaD,putAt,mkA,qal,qas,qay,qed,qhJ,qbi,AValue.dv]
    ·by_cases h9:9<op
     ·rw[if_pos (.inr h9)] at hr;rw[←hr];have e:=p1 (.inr h9)
      simp[h5,h9,e,↓qaA,↓qaE,↓qaD,putAt,mkA,qal,qas,qay,qed,qhJ,qbi,AValue.dv]
     ·rw[if_neg (by omega)] at hr
      rw[←hr];clear hr
      have e:=p2 (by omega)
      generalize clP op vs=q at *
      obtain⟨n,f⟩:=q;unfold two at e;simp only at e⊢;have e3:=qqz T hT ⟨w,n⟩
      rw[AValue.dv] at e3;simp only at e3;by_cases hf:f=0
      ·subst hf;rw[if_pos rfl];cases hk:okV ⟨w,n⟩ with
       |true =>
        rw[hk] at e3;simp[h5,h9,e,e3,↓qaA,↓qaE,↓qaD,putAt,mkA,qal,qas,qay,qed,qhJ,qbi,AValue.dv]
       |false =>
        rw[hk] at e3;simp[h5,h9,e,e3,↓qaA,↓qaE,↓qaD,putAt,mkA,qal,qas,qay,qed,qhJ,qbi,AValue.dv]
      ·have gf:=qai hf
       rw[if_neg hf];simp[h5,h9,e,gf,bne,↓qaA,↓qaE,↓qaD,putAt,mkA,qal,qas,qay,qed,qhJ,qbi,AValue.dv]
   ·rw[if_pos ha] at hr;rw[←hr];simp[f4,f5,fg,qbi,AValue.dv]
end Go.Sim
end
end
section
namespace Go.Sim
def tabV:PT :=
 (.bin 879 qjy (.bin 71 F71 (.bin 65 F65 (.bin 39 F39 (.bin 22 F22 .nil .nil) .nil) (.bin 66 F66 .nil .nil)) (.bin 708 qkq (.bin 265 qlH (.bin 72 F72 .nil .nil) .nil) (.bin 801 qg7 .nil .nil))) (.bin 884 qky (.bin 882 qkb (.bin 881 qkW (.bin 880 qiC .nil .nil) .nil) (.bin 883 qkV .nil .nil)) (.bin 933 qku (.bin 885 qjY .nil .nil) (.bin 934 qj1 .nil .nil))))
abbrev HV (T:Tab):Prop:=∀n F,tabV.get n=some F→T.F n=some F
end Go.Sim
end
section
open Go.Sim
attribute [local simp ↓] qeM qdM qez qd6 qdv qdm qdx qeN sqK blK lpK qdb qdj qe9 qeH qeo qdC qeh qdo qdw qe0 qc7 qeP qdd qeE qd3 qeS qeB qeQ qd1 qdJ qec qeL qdg qfa qc9 qdS qdP qef qdV qe5 qe7 qdt qeG qeV qd7 qei qeu qco qcD qdL qdW qep qcL qey qdA qcT qej qdu qdf qdl qdB qc1 qdi qcX qda qdF qeU qex qdK qdE qe8 qc8 qet qeO qdn qcO qc0 qd2 qdh qcw qen qcZ qc2 qdO qcj qeY qeW qeZ qew qdU qeF qe3 qdk qdy qdq qe4 qd9 qdI qds qee qfd qfQ qfM qf1 qfV qfO qf3 qfZ qfU qfJ qfY qfP qgJ qfu
attribute [local simp] qcf qdH qea qdG qev qel qc5 qe1 qd0 qdT qeC rd IOp.adds qan gh nid rgK rdS qe6 qdD qdZ qdQ qdY qeT qdc qdp qdz qeD qd4 qer qeq qdN qc6 qeA qes qek qem qdR qe2 qff qfb qfi qcl qfn qfh qfm qfR qfK qfS qfL
section
namespace Go.Sim
set_option maxRecDepth 10000
set_option maxHeartbeats 4000000
def qbX (d:Int):Bool:=decide (0≤d)&&decide (d≤73048)
def qg1 (y:Int):Bool:=(y.tmod 4==0)&&((y.tmod 100 != 0)||(y.tmod 400==0))
def lnI (y m:Int):Int:=if m=2 then (if qg1 y=true then 29 else 28) else if m=4∨m=6∨m=9∨m=11 then 30 else if m=1∨m=3∨m=5∨m=7∨m=8∨m=10∨m=12 then 31 else 0
def bgI (y:Int):Int:=365*(y-2000)+(y-2000+3)/4-(if 2100<y then 1 else 0)
def cmI (y:Int):Nat→Int
 | 0=>0
 |n+1=>cmI y n+lnI y (1+n)
theorem qkr (T:Tab) (hT:HV T) (d:Int):T.val 22 [I d]=some (.d (.b (qbX d)),false):=by
 rw[qaf T (hT 22 F22 rfl) rfl];simp[F22,Fr.ofArgs,qbX];repeat' (refine qbV (fun h => ?_) (fun h => ?_)<;>(try simp at h)<;>(try simp[h]))
 all_goals omega
theorem qv0 (T:Tab) (hT:HV T) (y:Int):T.val 66 [I y]=some (.d (.b (qg1 y)),false):=by
 rw[qaf T (hT 66 F66 rfl) rfl];simp[F66,Fr.ofArgs,qg1];repeat' (refine qbV (fun h => ?_) (fun h => ?_)<;>(try simp at h)<;>(try simp[h]))
 all_goals simp_all
theorem qm7 (T:Tab) (hT:HV T) (y:Int) (h1:2000≤y) (h2:y≤3000):T.val 71 [I y]=some (.d (I (bgI y)),false):=by
 rw[qaf T (hT 71 F71 rfl) rfl];have w1:IntKind.i64.wrap (y-2000)=y-2000:=wrI (by omega) (by omega)
 have w2:IntKind.i64.wrap (y-2000+3)=y-2000+3:=wrI (by omega) (by omega)
 have q:(y-2000+3).tdiv 4=(y-2000+3)/4:=Int.tdiv_eq_ediv_of_nonneg (by omega)
 have w3:IntKind.i64.wrap ((y-2000+3)/4)=(y-2000+3)/4:=wrI (by omega) (by omega)
 have w4:IntKind.i64.wrap (365*(y-2000))=365*(y-2000):=wrI (by omega) (by omega)
 have w5:IntKind.i64.wrap ((y-2000+3)/4-1)=(y-2000+3)/4-1:=wrI (by omega) (by omega)
 have w6:IntKind.i64.wrap (365*(y-2000)+((y-2000+3)/4-1))=365*(y-2000)+((y-2000+3)/4-1):=wrI (by omega) (by omega)
 have w7:IntKind.i64.wrap (365*(y-2000)+(y-2000+3)/4)=365*(y-2000)+(y-2000+3)/4:=wrI (by omega) (by omega)
 simp[F71,Fr.ofArgs,w1,w2,q,w3];repeat' (refine qbV (fun h => ?_) (fun h => ?_)<;>(try simp at h)<;>(try simp[w1,q,w3,w4,w5,w6,w7]))
 all_goals
  simp_all[bgI]
  try omega
theorem qw9 {R:Type} {y:List PV→Option R}:bo (qcQ [PV.d (I 0),PV.d (I 0),PV.d (I 0),PV.d (I 0),PV.d (I 0),PV.d (I 0),PV.d (I 0),PV.d (I 0),PV.d (I 0),PV.d (I 0),PV.d (I 0),PV.d (I 0),PV.d (I 0)] [(0,K0,.d (I 0)),(1,K0,.d (I 31)),(2,K0,.d (I 28)),(3,K0,.d (I 31)),(4,K0,.d (I 30)),(5,K0,.d (I 31)),(6,K0,.d (I 30)),(7,K0,.d (I 31)),(8,K0,.d (I 31)),(9,K0,.d (I 30)),(10,K0,.d (I 31)),(11,K0,.d (I 30)),(12,K0,.d (I 31))]) (.h y)=y [.d (I 0),.d (I 31),.d (I 28),.d (I 31),.d (I 30),.d (I 31),.d (I 30),.d (I 31),.d (I 31),.d (I 30),.d (I 31),.d (I 30),.d (I 31)]:=rfl
theorem qBX:mkA [.d (I 0),.d (I 31),.d (I 28),.d (I 31),.d (I 30),.d (I 31),.d (I 30),.d (I 31),.d (I 31),.d (I 30),.d (I 31),.d (I 30),.d (I 31)] = .d (.a [I 0,I 31,I 28,I 31,I 30,I 31,I 30,I 31,I 31,I 30,I 31,I 30,I 31]):=rfl
theorem qli (T:Tab) (hT:HV T) (y m:Int) (h1:1≤m) (h2:m≤12):T.val 72 [I y,I m]=some (.d (I (lnI y m)),false):=by
 rw[qaf T (hT 72 F72 rfl) rfl];have e:=qv0 T hT y
 have g:([I 0,I 31,I 28,I 31,I 30,I 31,I 30,I 31,I 31,I 30,I 31,I 30,I 31]:List DV)[m.toNat]? = some (I (if m=2 then 28 else lnI y m)):=by
  have:m=1∨m=2∨m=3∨m=4∨m=5∨m=6∨m=7∨m=8∨m=9∨m=10∨m=11∨m=12:=by omega
  rcases this with rfl|rfl|rfl|rfl|rfl|rfl|rfl|rfl|rfl|rfl|rfl|rfl<;>rfl
 have h3:0≤m:=by omega
 have h4:m<13:=by omega
 have h5:m.toNat<13:=by omega
 simp[F72,Fr.ofArgs,qaA,qw9,qBX];repeat' (refine qbV (fun h => ?_) (fun h => ?_)<;>(try simp at h)<;>(try simp[h,e,qz1,qsn,h3,h4,h5,qas,DV.cells]))
 all_goals simp_all[lnI]
theorem qpy {g:Nat→Int} {x:Int} : ∀(N:Nat),g 0≤x→x<g N→∃n,n<N∧g n≤x∧x<g (n+1)
 | 0,h0,h1=>absurd h1 (by omega)
 |N+1,h0,h1=>by
  by_cases h:x<g N
  ·obtain⟨n,a,b,c⟩:=qpy N h0 h;exact⟨n,by omega,b,c⟩
  ·exact⟨N,by omega,by omega,h1⟩
theorem qEi {y:Int} (h1:2000≤y) (h2:y<2200):qg1 y=true↔(y%4=0∧y≠2100):=by
 unfold qg1;rw[Int.tmod_eq_emod_of_nonneg (by omega),Int.tmod_eq_emod_of_nonneg (by omega),Int.tmod_eq_emod_of_nonneg (by omega)]
 simp only[zzf,Bool.or_eq_true,beq_iff_eq,bne_iff_ne,ne_eq];omega
theorem qze {y:Int} (h1:2000≤y) (h2:y<2200):bgI (y+1)=bgI y+(if qg1 y=true then 366 else 365):=by
 have h:=qEi h1 h2
 unfold bgI;by_cases g:qg1 y=true
 ·rw[if_pos g];have:=h.1 g;split<;>split<;>omega
 ·rw[if_neg g];have : ¬(y%4=0∧y≠2100):=fun q=>g (h.2 q)
  split<;>split<;>omega
theorem qBr (y:Int):cmI y 12=if qg1 y=true then 366 else 365:=by
 simp only[cmI,lnI];cases qg1 y<;>simp
def Civ (d:Int) (n m:Nat):Prop:=n<200∧bgI (2000+n)≤d∧d<bgI (2000+n+1)∧m<12∧cmI (2000+n) m≤d-bgI (2000+n)∧d-bgI (2000+n)<cmI (2000+n) (m+1)
theorem qlW {d:Int} (h:qbX d=true) : ∃n m,Civ d n m:=by
 simp only[qbX,zzf,zzq] at h;obtain⟨n,h1,h2,h3⟩:=qpy (g:=fun n=>bgI (2000+n)) (x:=d) 200 (by simp[bgI];omega) (by simp[bgI];omega)
 have h3':d<bgI (2000+n+1):=by simpa[Int.add_assoc] using h3
 have h4:=qze (y:=2000+n) (by omega) (by omega)
 obtain⟨m,h5,h6,h7⟩:=qpy (g:=cmI (2000+n)) (x:=d-bgI (2000+n)) 12 (by simp only[cmI];omega) (by rw[qBr];omega)
 exact⟨n,m,h1,h2,h3',h5,h6,h7⟩
theorem qiI {y:Int} {m:Int} (h1:1≤m) (h2:m≤12):28≤lnI y m∧lnI y m≤31:=by
 unfold lnI;(repeat' split)<;>omega
theorem qlY (y:Int) : ∀{a b:Nat},a≤b→b≤12→cmI y a≤cmI y b
 |a,0,h,_=>by
  obtain rfl:a=0:=by omega
  exact Int.le_refl _
 |a,b+1,h,hb=>by
  by_cases e:a=b+1
  ·subst e;exact Int.le_refl _
  ·have:=qlY y (a:=a) (b:=b) (by omega) (by omega)
   have:=qiI (y:=y) (m:=1+b) (by omega) (by omega)
   simp only[cmI];omega
theorem qiN {a b:Nat} (h:a≤b):bgI (2000+a)≤bgI (2000+b):=by
 unfold bgI;split<;>split<;>omega
end Go.Sim
end
section
namespace Go.Sim
set_option maxRecDepth 10000
set_option maxHeartbeats 4000000
theorem bg0:bgI 2000=0:=by decide
theorem qo4 {d:Int} {n m:Nat} (h:Civ d n m):0≤d∧d≤73048:=by
 obtain⟨h1,h2,h3,-⟩:=h
 have:=qiN (a:=0) (b:=n) (by omega)
 have b:=qiN (a:=n+1) (b:=200) (by omega)
 have e:bgI (2000+(200:Nat))=73049:=by decide
 have e0:bgI (2000+(0:Nat))=0:=by decide
 rw[show (2000:Int)+((n+1:Nat):Int)=2000+n+1 by omega] at b
 omega
theorem qAf (T:Tab) (hT:HV T) (d:Int) (n m:Nat) (h:Civ d n m) {k:KC (PV×Bool)} {fr:Fr} {H:Heap} (h0:gc [0,5] 0 ⟨fr,H⟩=⟨[(5,.d (I (2000+d/366))),(0,.d (I d))],[]⟩) :
  kC T.env 0 fr H (.h (.loop [0,5] qlq,k))=k (.exit 0) [(17,.d (.b false)),(5,.d (I (2000+n))),(0,.d (I d))] []:=by
 obtain⟨hp,hp2⟩:=qo4 h;obtain⟨h1,h2,h3,-⟩:=h;obtain⟨q,hq⟩ : ∃q:Nat,(q:Int)=d/366:=⟨(d/366).toNat,by omega⟩
 have hqd:bgI (2000+q)≤d:=by unfold bgI;split<;>omega
 have hqn:q≤n:=by
  by_cases g:q≤n
  ·exact g
  ·have:=qiN (a:=n+1) (b:=q) (by omega)
   rw[show (2000:Int)+((n+1:Nat):Int)=2000+n+1 by omega] at this
   omega
 refine qhP (fun y:Int=>⟨[(5,.d (I y)),(0,.d (I d))],[]⟩) (fun i=>2000+((q+i:Nat):Int)) (n-q) ?_ ?_ (by rw[h0,←hq];simp)
 ·intro B _;simp only[Nat.add_sub_cancel' hqn];have w:IntKind.i64.wrap (2000+(n:Int)+1)=2000+n+1:=wrI (by omega) (by omega)
  have e:=qm7 T hT (2000+n+1) (by omega) (by omega)
  have g : ¬bgI (2000+n+1)≤d:=by omega
  simp[qlq,w,e,g]
 ·intro B _ i hi c hc;obtain⟨z,hz⟩ : ∃z:Int,2000+((q+i:Nat):Int)=z:=⟨_,rfl⟩;have hz':2000+((q+(i+1):Nat):Int)=z+1:=by omega
  have b:=qiN (a:=q+(i+1)) (b:=n) (by omega)
  simp only[hz'] at hc b;simp only[hz];have w:IntKind.i64.wrap (z+1)=z+1:=wrI (by omega) (by omega)
  have e:=qm7 T hT (z+1) (by omega) (by omega)
  have g:bgI (z+1)≤d:=by omega
  simp[qlq,w,e,g];exact hc _ _ (by simp[gc,Fr.keep,qae,qac,qab,PV.refs,gcH,PV.ren,Obj.ren,Heap.obj,Fr.ren,gh])
theorem qBz (T:Tab) (hT:HV T) (d:Int) (n m:Nat) (h:Civ d n m) {k:KC (PV×Bool)} {fr:Fr} {H:Heap} (h0:gc [0,5,6] 0 ⟨fr,H⟩=⟨[(6,.d (I 1)),(5,.d (I (2000+n))),(0,.d (I (d-bgI (2000+n))))],[]⟩) :
  kC T.env 0 fr H (.h (.loop [0,5,6] qmx,k))=k (.exit 2) [(28,.d (.b false)),(6,.d (I (1+m))),(5,.d (I (2000+n))),(0,.d (I (d-bgI (2000+n)-cmI (2000+n) m)))] []:=by
 obtain⟨hp,hp2⟩:=qo4 h;obtain⟨h1,h2,h3,h4,h5,h6⟩:=h;generalize hy:(2000:Int)+n=y at *
 have hb:=qiN (a:=0) (b:=n) (by omega)
 rw[hy,show (2000:Int)+((0:Nat):Int)=2000 by simp,bg0] at hb
 refine qhP (fun s:Int×Int=>⟨[(6,.d (I s.1)),(5,.d (I y)),(0,.d (I s.2))],[]⟩) (fun i=>(1+(i:Int),d-bgI y-cmI y i)) m ?_ ?_ (by rw[h0];simp[cmI])
 ·intro B _;have e:=qli T hT y (1+m) (by omega) (by omega)
  have g : ¬lnI y (1+m)≤d-bgI y-cmI y m:=by simp only[cmI] at h6;omega
  simp[qmx,e,g]
 ·intro B _ i hi c hc;have e:=qli T hT y (1+i) (by omega) (by omega)
  have l:=qlY y (a:=i+1) (b:=m) (by omega) (by omega)
  have l0:=qlY y (a:=0) (b:=i+1) (by omega) (by omega)
  simp only[cmI] at l l0;have g:lnI y (1+i)≤d-bgI y-cmI y i:=by omega
  have w:IntKind.i64.wrap (1+(i:Int)+1)=1+(i:Int)+1:=wrI (by omega) (by omega)
  have w2:IntKind.i64.wrap (d-bgI y-cmI y i-lnI y (1+i))=d-bgI y-cmI y (i+1):=by
   have:=qiI (y:=y) (m:=1+i) (by omega) (by omega)
   rw[wrI (by omega) (by omega)];simp only[cmI];omega
  simp[qmx,w,e,g,w2];exact hc _ _ (by simp[gc,Fr.keep,qae,qac,qab,PV.refs,gcH,PV.ren,Obj.ren,Heap.obj,Fr.ren,gh];omega)
theorem qAT (T:Tab) (hT:HV T) (d:Int) (n m:Nat) (h:Civ d n m):T.val 65 [I d]=some (.t [.d (I (2000+n)),.d (I (1+m)),.d (I (d-bgI (2000+n)-cmI (2000+n) m+1))],false):=by
 rw[qaf T (hT 65 F65 rfl) rfl];obtain⟨hp,hp2⟩:=qo4 h;have hv:qbX d=true:=by simp[qbX,hp,hp2]
 have e:=qkr T hT d
 have q:d.tdiv 366=d/366:=Int.tdiv_eq_ediv_of_nonneg hp
 have w1:IntKind.i64.wrap (d/366)=d/366:=wrI (by omega) (by omega)
 have w2:IntKind.i64.wrap (2000+d/366)=2000+d/366:=wrI (by omega) (by omega)
 rw[hv] at e;have lp:=fun k fr H => @qAf T hT d n m h k fr H
 have lp2:=fun k fr H => @qBz T hT d n m h k fr H
 have e2:=qm7 T hT (2000+n) (by omega) (by have:=h.1;omega)
 have hb:=qiN (a:=0) (b:=n) (by omega)
 rw[show (2000:Int)+((0:Nat):Int)=2000 by simp,bg0] at hb
 have h2:=h.2.1
 have w3:IntKind.i64.wrap (d-bgI (2000+n))=d-bgI (2000+n):=wrI (by omega) (by omega)
 have l0:=qlY (2000+n) (a:=0) (b:=m) (by omega) (by have:=h.2.2.2.1;omega)
 have h5:=h.2.2.2.2.1
 simp only[cmI] at l0;have w4:IntKind.i64.wrap (d-bgI (2000+n)-cmI (2000+n) m+1)=d-bgI (2000+n)-cmI (2000+n) m+1:=wrI (by omega) (by omega)
 simp[F65,Fr.ofArgs,e,q,w1,w2];refine (lp _ _ _ (by simp[gc,Fr.keep,qae,qac,qab,PV.refs,gcH,PV.ren,Obj.ren,Heap.obj,Fr.ren,gh])).trans ?_
 simp[e2,w3];refine (lp2 _ _ _ (by simp[gc,Fr.keep,qae,qac,qab,PV.refs,gcH,PV.ren,Obj.ren,Heap.obj,Fr.ren,gh])).trans ?_
 simp[w4];try rfl
end Go.Sim
end
end
section
open Go.Sim
attribute [local simp ↓] qeM qdM qez qd6 qdv qdm qdx qeN sqK blK lpK qdb qdj qe9 qeH qeo qdC qeh qdo qdw qe0 qc7 qeP qdd qeE qd3 qeS qeB qeQ qd1 qdJ qec qeL qdg qfa qc9 qdS qdP qef qdV qe5 qe7 qdt qeG qeV qd7 qei qeu qco qcD qdL qdW qep qcL qey qdA qcT qej qdu qdf qdl qdB qc1 qdi qcX qda qdF qeU qex qdK qdE qe8 qc8 qet qeO qdn qcO qc0 qd2 qdh qcw qen qcZ qc2 qdO qcj qeY qeW qeZ qew qdU qeF qe3 qdk qdy qdq qe4 qd9 qdI qds qee qfd qfQ qfM qf1 qfV qfO qf3 qfZ qfU qfJ qfY qfP
attribute [local simp] qcf qdH qea qdG qev qel qc5 qe1 qd0 qdT qeC rd IOp.adds qan gh nid rgK rdS qe6 qdD qdZ qdQ qdY qeT qdc qdp qdz qeD qd4 qer qeq qdN qc6 qeA qes qek qem qdR qe2 qff qfb qfi qcl qfn qfh qfm qfR qfK qfS qfL
section
namespace Go.Sim
set_option maxRecDepth 10000
set_option maxHeartbeats 4000000
end Go.Sim
end
section
namespace Go.Sim
set_option maxRecDepth 10000
set_option maxHeartbeats 4000000
end Go.Sim
end
end
section
open Go.Sim
attribute [local simp ↓] qeM qdM qez qd6 qdv qdm qdx qeN sqK blK lpK qdb qdj qe9 qeH qeo qdC qeh qdo qdw qe0 qc7 qeP qdd qeE qd3 qeS qeB qeQ qd1 qdJ qec qeL qdg qfa qc9 qdS qdP qef qdV qe5 qe7 qdt qeG qeV qd7 qei qeu qco qcD qdL qdW qep qcL qey qdA qcT qej qdu qdf qdl qdB qc1 qdi qcX qda qdF qeU qex qdK qdE qe8 qc8 qet qeO qdn qcO qc0 qd2 qdh qcw qen qcZ qc2 qdO qcj qeY qeW qeZ qew qdU qeF qe3 qdk qdy qdq qe4 qd9 qdI qds qee qfd qfQ qfM qf1 qfV qfO qf3 qfZ qfU qfJ qfY qfP qgJ qfu
attribute [local simp] qcf qdH qea qdG qev qel qc5 qe1 qd0 qdT qeC rd IOp.adds qan gh nid rgK rdS qe6 qdD qdZ qdQ qdY qeT qdc qdp qdz qeD qd4 qer qeq qdN qc6 qeA qes qek qem qdR qe2 qff qfb qfi qcl qfn qfh qfm qfR qfK qfS qfL
section
namespace Go.Sim
set_option maxRecDepth 10000
set_option maxHeartbeats 4000000
theorem quD {y:Int} (h:2000≤y) (h2:y≤2200):0≤bgI y∧bgI y≤73049:=by
 unfold bgI;split<;>omega
theorem qu4 (y:Int) : ∀m:Nat,m≤12→0≤cmI y m∧cmI y m≤31*m
 | 0,_=>⟨Int.le_refl _,Int.le_refl _⟩
 |m+1,h=>by
  have:=qu4 y m (by omega)
  have:=qiI (y:=y) (m:=1+m) (by omega) (by omega)
  simp only[cmI];omega
theorem qxq (T:Tab) (hT:HV T) (y d:Int) (m:Nat) (hm:m<12) (hy:2000≤y) (hy2:y≤2200) (hd:0≤d) (hd2:d<1000) {k:KC (PV×Bool)} {fr:Fr} {H:Heap} (h0:gc [0,1,8,9] 0 ⟨fr,H⟩=⟨[(9,.d (I 1)),(8,.d (I (bgI y+d))),(1,.d (I (1+m))),(0,.d (I y))],[]⟩) :
  kC T.env 0 fr H (.h (.loop [0,1,8,9] qle,k))=k (.exit 0) [(42,.d (.b false)),(9,.d (I (1+m))),(8,.d (I (bgI y+d+cmI y m))),(1,.d (I (1+m))),(0,.d (I y))] []:=by
 have hb:=quD hy hy2
 refine qhP (fun s:Int×Int=>⟨[(9,.d (I s.1)),(8,.d (I s.2)),(1,.d (I (1+m))),(0,.d (I y))],[]⟩) (fun i=>(1+(i:Int),bgI y+d+cmI y i)) m ?_ ?_ (by rw[h0];simp[cmI])
 ·intro B _;simp[qle]
 ·intro B _ i hi c hc;have e:=qli T hT y (1+i) (by omega) (by omega)
  have g:(1:Int)+i<1+m:=by omega
  have g2:((i:Int)<m):=by omega
  have w:IntKind.i64.wrap (1+(i:Int)+1)=1+(i:Int)+1:=wrI (by omega) (by omega)
  have w2:IntKind.i64.wrap (bgI y+d+cmI y i+lnI y (1+i))=bgI y+d+cmI y (i+1):=by
   have:=qiI (y:=y) (m:=1+i) (by omega) (by omega)
   have:=qu4 y i (by omega)
   rw[wrI (by omega) (by omega)];simp only[cmI];omega
  simp[qle,w,e,g,w2];exact hc _ _ (by simp[gc,Fr.keep,qae,qac,qab,PV.refs,gcH,PV.ren,Obj.ren,Heap.obj,Fr.ren,gh];omega)
theorem qDw (T:Tab) (hT:HV T) (y d:Int) (m:Nat) (hm:m<12) (hy:2000≤y) (hy2:y<2200) (hd:1≤d) (hd2:d≤lnI y (1+m)):T.val 933 [I y,I (1+m),I d]=some (.t [.d (I (bgI y+(d-1)+cmI y m)),.d (I 0)],false):=by
 rw[qaf T (hT 933 qku rfl) rfl];have l:=qiI (y:=y) (m:=1+m) (by omega) (by omega)
 have hb:=quD hy (by omega)
 have g1 : ¬y<2000:=by omega
 have g2 : ¬2199<y:=by omega
 have g3 : ¬(1+(m:Int)<1):=by omega
 have g4 : ¬(12<1+(m:Int)):=by omega
 have g5 : ¬d<1:=by omega
 have g6 : ¬lnI y (1+m)<d:=by omega
 have e:=qli T hT y (1+m) (by omega) (by omega)
 have e2:=qm7 T hT y hy (by omega)
 have w1:IntKind.i64.wrap (bgI y+d)=bgI y+d:=wrI (by omega) (by omega)
 have w2:IntKind.i64.wrap (bgI y+d-1)=bgI y+(d-1):=by rw[wrI (by omega) (by omega)];omega
 have lp:=fun k fr H => @qxq T hT y (d-1) m hm hy (by omega) (by omega) (by omega) k fr H
 simp[qku,Fr.ofArgs,g1,g2,g3,g4,g5,g6,e,e2,w1,w2];refine (lp _ _ _ (by simp[gc,Fr.keep,qae,qac,qab,PV.refs,gcH,PV.ren,Obj.ren,Heap.obj,Fr.ren,gh])).trans ?_
 simp
theorem qxb (T:Tab) (hT:HV T) (d:Int) (n m:Nat) (h:Civ d n m):T.val 879 [I d]=some (.d (I (bgI (2000+n)+cmI (2000+n) m)),false):=by
 rw[qaf T (hT 879 qjy rfl) rfl];have e:=qAT T hT d n m h
 obtain⟨h1,h2,h3,h4,h5,h6⟩:=h;have l:=qiI (y:=2000+n) (m:=1+m) (by omega) (by omega)
 have e2:=qDw T hT (2000+n) 1 m h4 (by omega) (by omega) (by omega) (by omega)
 simp[qjy,Fr.ofArgs,e,e2]
noncomputable def mst (d:Int):Int:=if h:qbX d=true then bgI (2000+(Classical.choose (qlW h):Nat))+cmI (2000+(Classical.choose (qlW h):Nat)) (Classical.choose (Classical.choose_spec (qlW h))) else 0
theorem qCh {d:Int} (h:qbX d=true) : ∃n m,Civ d n m∧mst d=bgI (2000+n)+cmI (2000+n) m:=by
 refine⟨_,_,Classical.choose_spec (Classical.choose_spec (qlW h)),?_⟩;simp only[mst,h,dite_true]
theorem qBI (T:Tab) (hT:HV T) (d:Int) (h:qbX d=true):T.val 879 [I d]=some (.d (I (mst d)),false):=by
 obtain⟨n,m,h1,e⟩:=qCh h;rw[e];exact qxb T hT d n m h1
def qhu (b:ABooks) (id day:Int):Bool:=match qcE b id with
 |none=>false
 |some a=>decide (a.Opened≤day)&&((a.Closed==0)||decide (day<a.Closed))
theorem quE (T:Tab) (hT:HV T) (hU:HU T) (b:ABooks) (id day:Int) (hb:b.ok):T.val 39 [b.dv,I id,I day]=some (.d (.b (qhu b id day)),false):=by
 rw[qaf T (hT 39 F39 rfl) rfl];have e:=qlu T hU b id hb
 unfold qhu;cases hf:qcE b id with
 |none =>
  rw[hf] at e;simp only[Option.getD_none,Option.isSome_none] at e;simp[F39,Fr.ofArgs,e]
 |some a =>
  rw[hf] at e;simp only[Option.getD_some,Option.isSome_some] at e;simp[F39,Fr.ofArgs,e];repeat' (refine qbV (fun h => ?_) (fun h => ?_)<;>(try simp at h)<;>(try simp[h]))
  all_goals (first|(simp_all;done)|omega)
end Go.Sim
end
section
namespace Go.Sim
set_option maxRecDepth 10000
set_option maxHeartbeats 4000000
def qcs (acc:Int) (_:Nat) (n:Int) (x:ALeg):Int:=if (x.Account==acc)=true then w64 (n-x.Amount) else n
def qlr (acc:Int) (e:AEntry):Int:=qam (qcs acc) 0 0 e.Legs.l
def qmJ (acc:Int) (_:Nat) (n:Int) (e:AEntry):Int:=w64 (n+qlr acc e)
def ofR (j:List AEntry) (acc:Int):Int:=qam (qmJ acc) 0 0 j
end Go.Sim
end
section
namespace Go.Sim
set_option maxRecDepth 10000
set_option maxHeartbeats 4000000
end Go.Sim
end
section
namespace Go.Sim
set_option maxRecDepth 10000
set_option maxHeartbeats 4000000
mutual
def qbL:DV→Int→Int
 | .a [_,_,_,.l _ es _],m=>qgZ es 1 m
 | _,_=>1
def qgZ:List DV→Int→Int→Int
 | [],n,_=>n
 |e::es,n,m=>if n≤m then qgZ es (n+qbL e (m-n)) m else n
end
mutual
theorem qre : ∀(e:DV) (m:Int),0≤m→1≤qbL e m∧qbL e m≤m+1
 | .a [_,_,_,.l _ es _],m,h=>by
  unfold qbL;exact qru es 1 m (by omega) (by omega)
 | .a [],m,h=>by unfold qbL;omega
 | .a [_],m,h=>by unfold qbL;omega
 | .a [_,_],m,h=>by unfold qbL;omega
 | .a [_,_,_],m,h=>by unfold qbL;omega
 | .a (_::_::_ :: .b _::_),m,h=>by unfold qbL;omega
 | .a (_::_::_ :: .i _ _::_),m,h=>by unfold qbL;omega
 | .a (_::_::_ :: .s _::_),m,h=>by unfold qbL;omega
 | .a (_::_::_ :: .a _::_),m,h=>by unfold qbL;omega
 | .a (_::_::_ :: .np::_),m,h=>by unfold qbL;omega
 | .a (_::_::_ :: .nf::_),m,h=>by unfold qbL;omega
 | .a (_::_::_ :: .ni::_),m,h=>by unfold qbL;omega
 | .a (_::_::_ :: .nm::_),m,h=>by unfold qbL;omega
 | .a (_::_::_ :: .ifc _ _::_),m,h=>by unfold qbL;omega
 | .a (_::_::_ :: .tok _::_),m,h=>by unfold qbL;omega
 | .a (_::_::_ :: .l _ _ _::_::_),m,h=>by unfold qbL;omega
 | .b _,m,h=>by unfold qbL;omega
 | .i _ _,m,h=>by unfold qbL;omega
 | .s _,m,h=>by unfold qbL;omega
 | .l _ _ _,m,h=>by unfold qbL;omega
 | .np,m,h=>by unfold qbL;omega
 | .nf,m,h=>by unfold qbL;omega
 | .ni,m,h=>by unfold qbL;omega
 | .nm,m,h=>by unfold qbL;omega
 | .ifc _ _,m,h=>by unfold qbL;omega
 | .tok _,m,h=>by unfold qbL;omega
theorem qru : ∀(es:List DV) (n m:Int),1≤n→n≤m+1→1≤qgZ es n m∧qgZ es n m≤m+1
 | [],n,m,h1,h2=>⟨h1,h2⟩
 |e::es,n,m,h1,h2=>by
  unfold qgZ;split
  ·rename_i h
   have:=qre e (m-n) (by omega)
   exact qru es _ m (by omega) (by omega)
  ·exact⟨h1,h2⟩
end
theorem qvJ (T:Tab) (x:AExpr) (l:List AExpr) (hl:x.Args.l=l.map AExpr.dv) (m:Int) (hm0:0≤m) (hm1:m≤1000) (hn:l.length≤maxLen) (hv : ∀y∈l,∀m',0≤m'→m'≤1000→T.val 950 [y.dv,I m']=some (.d (I (qbL y.dv m')),false)) {k:KC (PV×Bool)} {r:Int→Option (PV×Bool)} {fr:Fr} {H:Heap}
  (hk : ∀(i:Nat) (n:Int),k (.exit 0) [(16,.d (.b false)),(6,.d (I i)),(5,.d (I n)),(2,.p 0 0 0),(1,.d (I m))] [some (.box (K1 4) (.d x.dv))]=r n)
  (h0:gc [1,2,5,6] 0 ⟨fr,H⟩=⟨[(6,.d (I 0)),(5,.d (I 1)),(2,.p 0 0 0),(1,.d (I m))],[some (.box (K1 4) (.d x.dv))]⟩) :
  kC T.env 0 fr H (.h (.loop [1,2,5,6] qlD,k))=r (qgZ x.Args.l 1 m):=by
 have hm:=mxl
 rw[qcH l (fun i (n:Int)=>⟨[(6,.d (I i)),(5,.d (I n)),(2,.p 0 0 0),(1,.d (I m))],[some (.box (K1 4) (.d x.dv))]⟩) (fun _ n=>1≤n∧n≤m+1) (fun i n y c=>if n≤m then c (n+qbL y.dv (m-n)) else r n) r ?_ ?_ h0 ⟨by omega,by omega⟩]
 ·have key : ∀(es:List AExpr) (i:Nat) (n:Int),qcB (fun i n y c=>if n≤m then c (n+qbL (AExpr.dv y) (m-n)) else r n) r i n es=r (qgZ (es.map AExpr.dv) n m):=by
   intro es;induction es with
   |nil=>intro i n;simp[qcB,qgZ]
   |cons y es ih =>
    intro i n;rw[qcB,zzu,qgZ];split
    ·exact ih _ _
    ·rfl
  rw[hl];exact key l 0 1
 ·intro B _ n _
  have:=hk l.length n
  simp[qlD,hl];exact this
 ·intro B _ i n hi hn1 c hc;have h1:(i:Int)<l.length:=by omega
  have h3:=wr1 (i:=i) (by omega)
  have h4:IntKind.i64.wrap (m-n)=m-n:=wrI (by omega) (by omega)
  simp[qlD,h1,hl];refine qbV (fun h => ?_) (fun h => ?_)
  ·simp at h;have hb:=qre l[i].dv (m-n) (by omega)
   have h5:IntKind.i64.wrap (n+qbL l[i].dv (m-n))=n+qbL l[i].dv (m-n):=wrI (by omega) (by omega)
   have hw:=hv l[i] (zzs hi) (m-n) (by omega) (by omega)
   simp[h,h1,hi,h3,h4,h5,hw,hl];exact hc _ _ _ ⟨by omega,by omega⟩ (by simp[gc,Fr.keep,qae,qac,qab,PV.refs,qad,gcH,qag,Obj.refs,PV.ren,Obj.ren,Heap.obj,Fr.ren,gh,zzd])
  ·simp at h;have h' : ¬n≤m:=by omega
   simp[h'];exact hk i n
theorem qsp (T:Tab) (hT:HU T) : ∀(n:Nat) (x:AExpr),SizeOf.sizeOf x.dv<n→x.ok→∀m,0≤m→m≤1000→T.val 950 [x.dv,I m]=some (.d (I (qbL x.dv m)),false)
 | 0,_,h,_,_,_,_=>absurd h (zzm _)
 |n+1,x,hs,hx,m,h0,h1=>by
  obtain⟨hlen,l,hl,hlo⟩:=qoS hx.2.2.2;rw[qaf T (hT 950 qkO rfl) rfl];have hn:l.length≤maxLen:=by rw[hl] at hlen;simpa using hlen
  have lp:=fun k r fr H => @qvJ T x l hl m h0 h1 hn (fun y hy=>qsp T hT n y (by have:=qEo (x:=x) (a:=y) (by rw[hl];exact List.mem_map_of_mem hy);omega) (hlo _ hy)) k r fr H
  simp[qkO,Fr.ofArgs];refine (lp _ (fun n=>some (.d (I n),false)) _ _ (fun i n => ?_) (by simp[gc,Fr.keep,qae,qac,qab,PV.refs,qad,gcH,qag,Obj.refs,PV.ren,Obj.ren,Heap.obj,Fr.ren,gh,zzd])).trans ?_
  ·simp
  ·rfl
theorem qny (T:Tab) (hT:HU T) (x:AExpr) (hx:x.ok):T.val 919 [x.dv,I 100]=some (.d (.b (decide (100<qbL x.dv 100))),false):=by
 rw[qaf T (hT 919 qki rfl) rfl];have e:=qsp T hT _ x (Nat.lt_succ_self _) hx 100 (by decide) (by decide)
 simp[qki,Fr.ofArgs,e]
end Go.Sim
end
section
namespace Go.Sim
set_option maxRecDepth 10000
set_option maxHeartbeats 8000000
def qfX {R:Type} (n:Nat) (k:KC R) (r:Option R):Prop:=∀fr H,fr.get n = .d (.b true)→qaz fr=[]→k .ret fr H=r
theorem qiv {R:Type} {n id:Nat} {k:KC R} {r:Option R}:qfX n (blK id k) r=qfX n k r:=rfl
theorem qh2 {R:Type} {n:Nat} {E:Env} {base:Nat} {b:PC} {k:KC R} {r:Option R}:qfX n (sqK E base b k) r=qfX n k r:=rfl
theorem qib {n:Nat} {E:Env}:qfX n (fin E [.t n]) (some (.d (.b true),false))=True:=by
  refine eq_true ?_;intro fr H h1 h2;rw[qcw h2,qc2,qcZ,h1];rfl
def qgo (h:AHold):Bool:=decide (200<h.Key.length)
def qk3 (l:List AHold):Bool:=decide (100<l.length)||l.any qgo
def qgv (x:ALeg):Bool:=decide (100<x.Currency.length)
def qf2 (e:AEntry):Bool:=decide (30<e.Legs.l.length)||decide (1000<e.Key.length)||decide (1000<e.Text.length)||e.Legs.l.any qgv
def grX (x:AExpr):Bool:=decide (100<qbL x.dv 100)
def qgA (f:AFee):Bool:=decide (100<f.Name.length)||grX f.When||grX f.Amount
def qgK (f:ARule):Bool:=decide (100<f.Name.length)||grX f.Amount
def qcR (p:AProduct):Bool:=decide (100<p.Name.length)||decide (100<p.Currency.length)||decide (100<p.Calendar.length)||decide (20<p.Credit.Tiers.l.length)||decide (20<p.Debit.Tiers.l.length)||decide (10<p.Fees.l.length)||decide (10<p.Rules.l.length)||p.Fees.l.any qgA||p.Rules.l.any qgK
def qgD (c:ACalendar):Bool:=decide (400<c.Holidays.l.length)||decide (20<c.Weekend.l.length)
def qhl (b:ABooks):Bool:=decide (20<b.Currencies.l.length)||decide (10<b.Calendars.l.length)||decide (60<b.Chart.l.length)||decide (20<b.Products.l.length)||decide (40<b.Accounts.l.length)||decide (150<b.Journal.l.length)||qk3 b.Holds.l||decide (100<b.Blocks.l.length)||b.Products.l.any qcR||b.Journal.l.any qf2||b.Calendars.l.any qgD
theorem qwN (T:Tab) (l:List AHold) (t:Bool) (hn:l.length≤maxLen) {k:KC (PV×Bool)} {r:Option (PV×Bool)} {fr:Fr} {H:Heap} (hr:qfX 2 k r) (h0:gc [0,3] 0 ⟨fr,H⟩=⟨[(3,(.d (I (0:Int)))),(0,(.d (.l (K1 6) (l.map AHold.dv) t)))],[]⟩) :
    kC T.env 0 fr H (.h (.loop [0,3] qmh,k))=brn (l.any (qgo)) (.h (r,k (.exit 0) [(10,.d (.b false)),(3,(.d (I (l.length:Int)))),(0,(.d (.l (K1 6) (l.map AHold.dv) t)))] [])):=by
  have hm:=mxl
  rw[qcH l (fun i _=>⟨[(3,(.d (I (i:Int)))),(0,(.d (.l (K1 6) (l.map AHold.dv) t)))],[]⟩) (fun _ _=>True) (fun i _ x c=>if (qgo) x=true then r else c ()) (fun _=>k (.exit 0) [(10,.d (.b false)),(3,(.d (I (l.length:Int)))),(0,(.d (.l (K1 6) (l.map AHold.dv) t)))] []) ?_ ?_ h0 trivial]
  · rw[qhq (qgo) r]
    · cases l.any (qgo)<;>rfl
    · exact fun _ _ _ _=>rfl
  · intro B _ _ _
    simp[qmh]
  · intro B _ i _ hi _ c hc
    have h1:(i:Int)<l.length:=by omega
    have h3:=wr1 (i:=i) (by omega)
    simp[qmh,h1,hi];repeat' (refine qbV (fun h => ?_) (fun h => ?_)<;>(try simp at h)<;>(try simp[h3]))
    all_goals first
      | (have e:(qgo) l[i]=true:=by
           simp[qgo, *];try omega
         rw[if_pos e];exact hr _ _ (by simp[Fr.get]) (by simp[qaz,gh]))
      | (have e : ¬(qgo) l[i]=true:=by
           simp[qgo, *];try omega
         rw[if_neg e];exact hc () _ _ trivial (by simp[gc,Fr.keep,qae,qac,qab,PV.refs,gcH,PV.ren,Obj.ren,Heap.obj,Fr.ren,gh]))
theorem qAu (T:Tab) (hT:HU T) (l:List AHold) (t:Bool) (hn:l.length≤maxLen):T.val 1094 [.l (K1 6) (l.map AHold.dv) t]=some (.d (.b (qk3 l)),false):=by
  rw[qaf T (hT 1094 qjH rfl) rfl];have lp:=fun k fr H => @qwN T l t hn k (some (.d (.b true),false)) fr H
  obtain⟨q,hq⟩ : ∃q,l.any qgo=q:=⟨_,rfl⟩;simp only[hq] at lp;have hs:qk3 l=(decide (100<l.length)||q):=by rw[qk3,hq]
  clear hq
  simp[qjH,Fr.ofArgs];repeat' first
    | (refine qbV (fun h => ?_) (fun h => ?_)<;>(try simp at h)<;>(try simp))
    |refine (lp _ _ _ (by simp[qiv,qh2,qib]) (by simp[gc,Fr.keep,qae,qac,qab,PV.refs,gcH,PV.ren,Obj.ren,Heap.obj,Fr.ren,gh])).trans ?_
  all_goals simp_all
  all_goals omega
theorem qB6 (T:Tab) (e:AEntry) (hn:e.Legs.l.length≤maxLen) {k:KC (PV×Bool)} {r:Option (PV×Bool)} {fr:Fr} {H:Heap} (hr:qfX 2 k r) (h0:gc [1,3] 0 ⟨fr,H⟩=⟨[(3,(.d (I (0:Int)))),(1,(.p 0 0 0))],[some (.box (K1 10) (.d e.dv))]⟩) :
    kC T.env 0 fr H (.h (.loop [1,3] qlb,k))=brn (e.Legs.l.any (qgv)) (.h (r,k (.exit 0) [(24,.d (.b false)),(3,(.d (I (e.Legs.l.length:Int)))),(1,(.p 0 0 0))] [some (.box (K1 10) (.d e.dv))])):=by
  have hm:=mxl
  rw[qcH e.Legs.l (fun i _=>⟨[(3,(.d (I (i:Int)))),(1,(.p 0 0 0))],[some (.box (K1 10) (.d e.dv))]⟩) (fun _ _=>True) (fun i _ x c=>if (qgv) x=true then r else c ()) (fun _=>k (.exit 0) [(24,.d (.b false)),(3,(.d (I (e.Legs.l.length:Int)))),(1,(.p 0 0 0))] [some (.box (K1 10) (.d e.dv))]) ?_ ?_ h0 trivial]
  · rw[qhq (qgv) r]
    · cases e.Legs.l.any (qgv)<;>rfl
    · exact fun _ _ _ _=>rfl
  · intro B _ _ _
    simp[qlb]
  · intro B _ i _ hi _ c hc
    have h1:(i:Int)<e.Legs.l.length:=by omega
    have h3:=wr1 (i:=i) (by omega)
    simp[qlb,h1,hi];repeat' (refine qbV (fun h => ?_) (fun h => ?_)<;>(try simp at h)<;>(try simp[h3]))
    all_goals first
      | (have e:(qgv) e.Legs.l[i]=true:=by
           simp[qgv, *];try omega
         rw[if_pos e];exact hr _ _ (by simp[Fr.get]) (by simp[qaz,gh]))
      | (have e : ¬(qgv) e.Legs.l[i]=true:=by
           simp[qgv, *];try omega
         rw[if_neg e];exact hc () _ _ trivial (by simp[gc,Fr.keep,qae,qac,qab,PV.refs,qad,gcH,qag,Obj.refs,PV.ren,Obj.ren,Heap.obj,Fr.ren,gh,zzd]))
theorem qyl (T:Tab) (hT:HU T) (e:AEntry) (he:e.ok):T.val 1096 [e.dv]=some (.d (.b (qf2 e)),false):=by
  rw[qaf T (hT 1096 qjz rfl) rfl];have lp:=fun k fr H => @qB6 T e (he.2.2.2.2.2.2.2.2.1).1 k (some (.d (.b true),false)) fr H
  obtain⟨q,hq⟩ : ∃q,e.Legs.l.any qgv=q:=⟨_,rfl⟩;simp only[hq] at lp;have hs:qf2 e=(decide (30<e.Legs.l.length)||decide (1000<e.Key.length)||decide (1000<e.Text.length)||q):=by rw[qf2,hq]
  clear hq
  simp[qjz,Fr.ofArgs];repeat' first
    | (refine qbV (fun h => ?_) (fun h => ?_)<;>(try simp at h)<;>(try simp[h]))
    |refine (lp _ _ _ (by simp[qiv,qh2,qib]) (by simp[gc,Fr.keep,qae,qac,qab,PV.refs,qad,gcH,qag,Obj.refs,PV.ren,Obj.ren,Heap.obj,Fr.ren,gh,zzd])).trans ?_
  all_goals simp_all
  all_goals omega
end Go.Sim
end
section
namespace Go.Sim
set_option maxRecDepth 10000
set_option maxHeartbeats 8000000
theorem qEu (T:Tab) (hT:HU T) (p:AProduct) (hn:p.Fees.l.length≤maxLen) (ho : ∀f∈p.Fees.l,f.ok) {k:KC (PV×Bool)} {r:Option (PV×Bool)} {fr:Fr} {H:Heap} (hr:qfX 2 k r) (h0:gc [1,3] 0 ⟨fr,H⟩=⟨[(3,(.d (I (0:Int)))),(1,(.p 0 0 0))],[some (.box (K1 19) (.d p.dv))]⟩) :
    kC T.env 0 fr H (.h (.loop [1,3] qmN,k))=brn (p.Fees.l.any (qgA)) (.h (r,k (.exit 0) [(51,.d (.b false)),(3,(.d (I (p.Fees.l.length:Int)))),(1,(.p 0 0 0))] [some (.box (K1 19) (.d p.dv))])):=by
  have hm:=mxl
  rw[qcH p.Fees.l (fun i _=>⟨[(3,(.d (I (i:Int)))),(1,(.p 0 0 0))],[some (.box (K1 19) (.d p.dv))]⟩) (fun _ _=>True) (fun i _ x c=>if (qgA) x=true then r else c ()) (fun _=>k (.exit 0) [(51,.d (.b false)),(3,(.d (I (p.Fees.l.length:Int)))),(1,(.p 0 0 0))] [some (.box (K1 19) (.d p.dv))]) ?_ ?_ h0 trivial]
  · rw[qhq (qgA) r]
    · cases p.Fees.l.any (qgA)<;>rfl
    · exact fun _ _ _ _=>rfl
  · intro B _ _ _
    simp[qmN]
  · intro B _ i _ hi _ c hc
    have h1:(i:Int)<p.Fees.l.length:=by omega
    have h3:=wr1 (i:=i) (by omega)
    have o1:=ho _ (zzs hi)
    have e0:=qny T hT p.Fees.l[i].When o1.2.2.1
    have e1:=qny T hT p.Fees.l[i].Amount o1.2.2.2
    simp[qmN,h1,hi];repeat' (refine qbV (fun h => ?_) (fun h => ?_)<;>(try simp at h)<;>(try simp[h,h1,hi,h3,e0,e1]))
    all_goals first
      | (have e:(qgA) p.Fees.l[i]=true:=by
           simp[qgA,grX, *];try omega
         rw[if_pos e];exact hr _ _ (by simp[Fr.get]) (by simp[qaz,gh]))
      | (have e : ¬(qgA) p.Fees.l[i]=true:=by
           simp[qgA,grX, *];try omega
         rw[if_neg e];exact hc () _ _ trivial (by simp[gc,Fr.keep,qae,qac,qab,PV.refs,qad,gcH,qag,Obj.refs,PV.ren,Obj.ren,Heap.obj,Fr.ren,gh,zzd]))
theorem qCq (T:Tab) (hT:HU T) (p:AProduct) (hn:p.Rules.l.length≤maxLen) (ho : ∀f∈p.Rules.l,f.ok) {k:KC (PV×Bool)} {r:Option (PV×Bool)} {fr:Fr} {H:Heap} (hr:qfX 2 k r) (h0:gc [1,4] 0 ⟨fr,H⟩=⟨[(4,(.d (I (0:Int)))),(1,(.p 0 0 0))],[some (.box (K1 19) (.d p.dv))]⟩) :
    kC T.env 0 fr H (.h (.loop [1,4] qmL,k))=brn (p.Rules.l.any (qgK)) (.h (r,k (.exit 2) [(84,.d (.b false)),(4,(.d (I (p.Rules.l.length:Int)))),(1,(.p 0 0 0))] [some (.box (K1 19) (.d p.dv))])):=by
  have hm:=mxl
  rw[qcH p.Rules.l (fun i _=>⟨[(4,(.d (I (i:Int)))),(1,(.p 0 0 0))],[some (.box (K1 19) (.d p.dv))]⟩) (fun _ _=>True) (fun i _ x c=>if (qgK) x=true then r else c ()) (fun _=>k (.exit 2) [(84,.d (.b false)),(4,(.d (I (p.Rules.l.length:Int)))),(1,(.p 0 0 0))] [some (.box (K1 19) (.d p.dv))]) ?_ ?_ h0 trivial]
  · rw[qhq (qgK) r]
    · cases p.Rules.l.any (qgK)<;>rfl
    · exact fun _ _ _ _=>rfl
  · intro B _ _ _
    simp[qmL]
  · intro B _ i _ hi _ c hc
    have h1:(i:Int)<p.Rules.l.length:=by omega
    have h3:=wr1 (i:=i) (by omega)
    have o1:=ho _ (zzs hi)
    have e1:=qny T hT p.Rules.l[i].Amount o1.2.2
    simp[qmL,h1,hi];repeat' (refine qbV (fun h => ?_) (fun h => ?_)<;>(try simp at h)<;>(try simp[h,h1,hi,h3,e1]))
    all_goals first
      | (have e:(qgK) p.Rules.l[i]=true:=by
           simp[qgK,grX, *];try omega
         rw[if_pos e];exact hr _ _ (by simp[Fr.get]) (by simp[qaz,gh]))
      | (have e : ¬(qgK) p.Rules.l[i]=true:=by
           simp[qgK,grX, *];try omega
         rw[if_neg e];exact hc () _ _ trivial (by simp[gc,Fr.keep,qae,qac,qab,PV.refs,qad,gcH,qag,Obj.refs,PV.ren,Obj.ren,Heap.obj,Fr.ren,gh,zzd]))
theorem qwk (T:Tab) (hT:HU T) (p:AProduct) (hp:p.ok):T.val 1095 [p.dv]=some (.d (.b (qcR p)),false):=by
  rw[qaf T (hT 1095 qkg rfl) rfl];have lp0:=fun k fr H => @qEu T hT p (hp.2.2.2.2.2.2.2.2.2.1).1 (hp.2.2.2.2.2.2.2.2.2.1).2 k (some (.d (.b true),false)) fr H
  have lp1:=fun k fr H => @qCq T hT p (hp.2.2.2.2.2.2.2.2.2.2).1 (hp.2.2.2.2.2.2.2.2.2.2).2 k (some (.d (.b true),false)) fr H
  obtain⟨q0,hq0⟩ : ∃q,p.Fees.l.any qgA=q:=⟨_,rfl⟩;obtain⟨q1,hq1⟩ : ∃q,p.Rules.l.any qgK=q:=⟨_,rfl⟩;simp only[hq0] at lp0;simp only[hq1] at lp1;have hs:qcR p=(decide (100<p.Name.length)||decide (100<p.Currency.length)||decide (100<p.Calendar.length)||decide (20<p.Credit.Tiers.l.length)||decide (20<p.Debit.Tiers.l.length)||decide (10<p.Fees.l.length)||decide (10<p.Rules.l.length)||q0||q1):=by rw[qcR,hq0,hq1]
  clear hq0 hq1
  simp[qkg,Fr.ofArgs];repeat' first
    | (refine qbV (fun h => ?_) (fun h => ?_)<;>(try simp at h)<;>(try simp[h]))
    |refine (lp0 _ _ _ (by simp[qiv,qh2,qib]) (by simp[gc,Fr.keep,qae,qac,qab,PV.refs,qad,gcH,qag,Obj.refs,PV.ren,Obj.ren,Heap.obj,Fr.ren,gh,zzd])).trans ?_
    |refine (lp1 _ _ _ (by simp[qiv,qh2,qib]) (by simp[gc,Fr.keep,qae,qac,qab,PV.refs,qad,gcH,qag,Obj.refs,PV.ren,Obj.ren,Heap.obj,Fr.ren,gh,zzd])).trans ?_
  all_goals simp_all
  all_goals omega
theorem qAw (T:Tab) (hT:HU T) (b:ABooks) (hn:b.Products.l.length≤maxLen) (ho : ∀f∈b.Products.l,f.ok) {k:KC (PV×Bool)} {r:Option (PV×Bool)} {fr:Fr} {H:Heap} (hr:qfX 2 k r) (h0:gc [1,3] 0 ⟨fr,H⟩=⟨[(3,(.d (I (0:Int)))),(1,(.p 0 0 0))],[some (.box (K1 22) (.d b.dv))]⟩) :
    kC T.env 0 fr H (.h (.loop [1,3] qlh,k))=brn (b.Products.l.any (qcR)) (.h (r,k (.exit 0) [(55,.d (.b false)),(3,(.d (I (b.Products.l.length:Int)))),(1,(.p 0 0 0))] [some (.box (K1 22) (.d b.dv))])):=by
  have hm:=mxl
  rw[qcH b.Products.l (fun i _=>⟨[(3,(.d (I (i:Int)))),(1,(.p 0 0 0))],[some (.box (K1 22) (.d b.dv))]⟩) (fun _ _=>True) (fun i _ x c=>if (qcR) x=true then r else c ()) (fun _=>k (.exit 0) [(55,.d (.b false)),(3,(.d (I (b.Products.l.length:Int)))),(1,(.p 0 0 0))] [some (.box (K1 22) (.d b.dv))]) ?_ ?_ h0 trivial]
  · rw[qhq (qcR) r]
    · cases b.Products.l.any (qcR)<;>rfl
    · exact fun _ _ _ _=>rfl
  · intro B _ _ _
    simp[qlh]
  · intro B _ i _ hi _ c hc
    have h1:(i:Int)<b.Products.l.length:=by omega
    have h3:=wr1 (i:=i) (by omega)
    have e1:=qwk T hT b.Products.l[i] (ho _ (zzs hi))
    obtain⟨q,hq⟩ : ∃q,qcR b.Products.l[i]=q:=⟨_,rfl⟩;rw[hq] at e1;simp[qlh,h1,hi,e1];repeat' (refine qbV (fun h => ?_) (fun h => ?_)<;>(try simp at h)<;>(try simp[h3]))
    all_goals first
      | (have e:(qcR) b.Products.l[i]=true:=by
           simp[*];try omega
         rw[if_pos e];exact hr _ _ (by simp[Fr.get]) (by simp[qaz,gh]))
      | (have e : ¬(qcR) b.Products.l[i]=true:=by
           simp[*];try omega
         rw[if_neg e];exact hc () _ _ trivial (by simp[gc,Fr.keep,qae,qac,qab,PV.refs,qad,gcH,qag,Obj.refs,PV.ren,Obj.ren,Heap.obj,Fr.ren,gh,zzd]))
theorem qxC (T:Tab) (hT:HU T) (b:ABooks) (hn:b.Journal.l.length≤maxLen) (ho : ∀f∈b.Journal.l,f.ok) {k:KC (PV×Bool)} {r:Option (PV×Bool)} {fr:Fr} {H:Heap} (hr:qfX 2 k r) (h0:gc [1,4] 0 ⟨fr,H⟩=⟨[(4,(.d (I (0:Int)))),(1,(.p 0 0 0))],[some (.box (K1 22) (.d b.dv))]⟩) :
    kC T.env 0 fr H (.h (.loop [1,4] qmR,k))=brn (b.Journal.l.any (qf2)) (.h (r,k (.exit 2) [(68,.d (.b false)),(4,(.d (I (b.Journal.l.length:Int)))),(1,(.p 0 0 0))] [some (.box (K1 22) (.d b.dv))])):=by
  have hm:=mxl
  rw[qcH b.Journal.l (fun i _=>⟨[(4,(.d (I (i:Int)))),(1,(.p 0 0 0))],[some (.box (K1 22) (.d b.dv))]⟩) (fun _ _=>True) (fun i _ x c=>if (qf2) x=true then r else c ()) (fun _=>k (.exit 2) [(68,.d (.b false)),(4,(.d (I (b.Journal.l.length:Int)))),(1,(.p 0 0 0))] [some (.box (K1 22) (.d b.dv))]) ?_ ?_ h0 trivial]
  · rw[qhq (qf2) r]
    · cases b.Journal.l.any (qf2)<;>rfl
    · exact fun _ _ _ _=>rfl
  · intro B _ _ _
    simp[qmR]
  · intro B _ i _ hi _ c hc
    have h1:(i:Int)<b.Journal.l.length:=by omega
    have h3:=wr1 (i:=i) (by omega)
    have e1:=qyl T hT b.Journal.l[i] (ho _ (zzs hi))
    obtain⟨q,hq⟩ : ∃q,qf2 b.Journal.l[i]=q:=⟨_,rfl⟩;rw[hq] at e1;simp[qmR,h1,hi,e1];repeat' (refine qbV (fun h => ?_) (fun h => ?_)<;>(try simp at h)<;>(try simp[h3]))
    all_goals first
      | (have e:(qf2) b.Journal.l[i]=true:=by
           simp[*];try omega
         rw[if_pos e];exact hr _ _ (by simp[Fr.get]) (by simp[qaz,gh]))
      | (have e : ¬(qf2) b.Journal.l[i]=true:=by
           simp[*];try omega
         rw[if_neg e];exact hc () _ _ trivial (by simp[gc,Fr.keep,qae,qac,qab,PV.refs,qad,gcH,qag,Obj.refs,PV.ren,Obj.ren,Heap.obj,Fr.ren,gh,zzd]))
theorem qwf (T:Tab) (b:ABooks) (hn:b.Calendars.l.length≤maxLen) {k:KC (PV×Bool)} {r:Option (PV×Bool)} {fr:Fr} {H:Heap} (hr:qfX 2 k r) (h0:gc [1,5] 0 ⟨fr,H⟩=⟨[(5,(.d (I (0:Int)))),(1,(.p 0 0 0))],[some (.box (K1 22) (.d b.dv))]⟩) :
    kC T.env 0 fr H (.h (.loop [1,5] qlI,k))=brn (b.Calendars.l.any (qgD)) (.h (r,k (.exit 4) [(81,.d (.b false)),(5,(.d (I (b.Calendars.l.length:Int)))),(1,(.p 0 0 0))] [some (.box (K1 22) (.d b.dv))])):=by
  have hm:=mxl
  rw[qcH b.Calendars.l (fun i _=>⟨[(5,(.d (I (i:Int)))),(1,(.p 0 0 0))],[some (.box (K1 22) (.d b.dv))]⟩) (fun _ _=>True) (fun i _ x c=>if (qgD) x=true then r else c ()) (fun _=>k (.exit 4) [(81,.d (.b false)),(5,(.d (I (b.Calendars.l.length:Int)))),(1,(.p 0 0 0))] [some (.box (K1 22) (.d b.dv))]) ?_ ?_ h0 trivial]
  · rw[qhq (qgD) r]
    · cases b.Calendars.l.any (qgD)<;>rfl
    · exact fun _ _ _ _=>rfl
  · intro B _ _ _
    simp[qlI]
  · intro B _ i _ hi _ c hc
    have h1:(i:Int)<b.Calendars.l.length:=by omega
    have h3:=wr1 (i:=i) (by omega)
    simp[qlI,h1,hi];repeat' (refine qbV (fun h => ?_) (fun h => ?_)<;>(try simp at h)<;>(try simp[h,h1,hi,h3]))
    all_goals first
      | (have e:(qgD) b.Calendars.l[i]=true:=by
           simp[qgD, *];try omega
         rw[if_pos e];exact hr _ _ (by simp[Fr.get]) (by simp[qaz,gh]))
      | (have e : ¬(qgD) b.Calendars.l[i]=true:=by
           simp[qgD, *];try omega
         rw[if_neg e];exact hc () _ _ trivial (by simp[gc,Fr.keep,qae,qac,qab,PV.refs,qad,gcH,qag,Obj.refs,PV.ren,Obj.ren,Heap.obj,Fr.ren,gh,zzd]))
theorem qCm (T:Tab) (hT:HU T) (b:ABooks) (hb:b.ok):T.val 1090 [b.dv]=some (.d (.b (qhl b)),false):=by
  rw[qaf T (hT 1090 qkF rfl) rfl];have lp0:=fun k fr H => @qAw T hT b (hb.2.2.2.2.1).1 (hb.2.2.2.2.1).2 k (some (.d (.b true),false)) fr H
  have lp1:=fun k fr H => @qxC T hT b (hb.2.2.2.2.2.2.1).1 (hb.2.2.2.2.2.2.1).2 k (some (.d (.b true),false)) fr H
  have lp2:=fun k fr H => @qwf T b (hb.2.1).1 k (some (.d (.b true),false)) fr H
  have e:=qAu T hT b.Holds.l b.Holds.t (hb.2.2.2.2.2.2.2.1).1
  obtain⟨q0,hq0⟩ : ∃q,b.Products.l.any qcR=q:=⟨_,rfl⟩;obtain⟨q1,hq1⟩ : ∃q,b.Journal.l.any qf2=q:=⟨_,rfl⟩;obtain⟨q2,hq2⟩ : ∃q,b.Calendars.l.any qgD=q:=⟨_,rfl⟩;obtain⟨q3,hq3⟩ : ∃q,qk3 b.Holds.l=q:=⟨_,rfl⟩;simp only[hq0] at lp0;simp only[hq1] at lp1;simp only[hq2] at lp2;simp only[hq3] at e;have hs:qhl b=(decide (20<b.Currencies.l.length)||decide (10<b.Calendars.l.length)||decide (60<b.Chart.l.length)||decide (20<b.Products.l.length)||decide (40<b.Accounts.l.length)||decide (150<b.Journal.l.length)||q3||decide (100<b.Blocks.l.length)||q0||q1||q2):=by rw[qhl,hq0,hq1,hq2,hq3]
  clear hq0 hq1 hq2 hq3
  simp[qkF,Fr.ofArgs];repeat' first
    | (refine qbV (fun h => ?_) (fun h => ?_)<;>(try simp at h)<;>(try simp[h,e]))
    |refine (lp0 _ _ _ (by simp[qiv,qh2,qib]) (by simp[gc,Fr.keep,qae,qac,qab,PV.refs,qad,gcH,qag,Obj.refs,PV.ren,Obj.ren,Heap.obj,Fr.ren,gh,zzd])).trans ?_
    |refine (lp1 _ _ _ (by simp[qiv,qh2,qib]) (by simp[gc,Fr.keep,qae,qac,qab,PV.refs,qad,gcH,qag,Obj.refs,PV.ren,Obj.ren,Heap.obj,Fr.ren,gh,zzd])).trans ?_
    |refine (lp2 _ _ _ (by simp[qiv,qh2,qib]) (by simp[gc,Fr.keep,qae,qac,qab,PV.refs,qad,gcH,qag,Obj.refs,PV.ren,Obj.ren,Heap.obj,Fr.ren,gh,zzd])).trans ?_
  all_goals simp_all
  all_goals omega
end Go.Sim
end
section
namespace Go.Sim
set_option maxRecDepth 10000
set_option maxHeartbeats 4000000
def qml (id:Int) (x:ALeg):Bool:=x.Account==id
def tch (id:Int) (e:AEntry):Bool:=e.Legs.l.any (qml id)
theorem qst {α:Type} (p:α→Bool) (l:List α):decide (0≤qjn p l)=l.any p:=by
  unfold qjn;cases h:l.findIdx? p with
  |none =>
    have:=List.findIdx?_eq_none_iff.1 h
    have:l.any p=false:=by
      rw[List.any_eq_false];intro x hx;simpa using this x hx
    rw[this];rfl
  |some j =>
    have:l.any p=true:=by
      obtain⟨hj,h1,-⟩:=List.findIdx?_eq_some_iff_getElem.1 h;exact List.any_eq_true.2 ⟨_,zzs hj,h1⟩
    rw[this];simp
theorem qxl {α:Type} (T:Tab) (hT:HV T) (g:Nat) (dv:α→DV) (p:α→Bool) (c:PV) (cs:List PV) (H0:Heap) (hH:Cl H0) (hc : ∀r∈PV.refsL (c::cs),r<H0.length) (l:List α) (hv : ∀x∈l,T.ref g (.d (dv x)::c::cs) H0=some (.d (.b (p x)),H0)) (s:Bool) (hn:l.length≤maxLen) :
    T.ref 708 [.d (.l (K1 3) (l.map dv) s),.f g (c::cs)] H0=some (.d (.b (l.any p)),H0):=by
  rw[qf8 T (hT 708 qkq rfl) rfl];have e:=qqk T (hT 265 qlH rfl) g dv p c cs H0 hH hc l hv s hn
  have e2:=qst p l
  simp[qkq,Fr.ofArgs,e,e2,qfz,qnd hH]
theorem qB8 (T:Tab) (hT:HV T) (x:ALeg) (e:AEntry) (id:Int):T.ref 934 [.d x.dv,.p 1 0 0] [some (.box (K1 10) (.d e.dv)),some (.box K0 (.d (I id)))]=some (.d (.b (qml id x)),[some (.box (K1 10) (.d e.dv)),some (.box K0 (.d (I id)))]):=by
  rw[qf8 T (hT 934 qj1 rfl) rfl];have hH:=qmB (K1 10) K0 e.dv (I id)
  simp[qj1,Fr.ofArgs,qfz,qml];exact (qio hH [some (.box (K1 3) (.d x.dv))] _)
theorem qxG (T:Tab) (hT:HV T) (e:AEntry) (id:Int) (hn:e.Legs.l.length≤maxLen):T.val 883 [e.dv,I id]=some (.d (.b (tch id e)),false):=by
  rw[qaf T (hT 883 qkV rfl) rfl];have e1:=qxl T hT 934 ALeg.dv (qml id) (.p 1 0 0) [] [some (.box (K1 10) (.d e.dv)),some (.box K0 (.d (I id)))] (qmB _ _ _ _) (by simp[PV.refs,PV.refsL]) e.Legs.l (fun a _=>qB8 T hT a e id) e.Legs.t hn
  simp[qkV,Fr.ofArgs,e1,tch]
def qgi (id frm upto:Int) (_:Nat) (n:Int) (e:AEntry):Int:=if (decide (frm≤e.Booked)&&(decide (e.Booked≤upto)&&tch id e))=true then w64 (n+1) else n
def qhR (j:List AEntry) (id frm upto:Int):Int:=qam (qgi id frm upto) 0 0 j
theorem qEk (T:Tab) (hT:HV T) (a:AAccount) (l:List AEntry) (t:Bool) (id frm upto amt now low vol:Int) (hn:l.length≤maxLen) (ho : ∀e∈l,e.ok) {k:KC (PV×Bool)} {fr:Fr} {H:Heap} (h0:gc [1,2,3,10,12,13,14,16,18,75,76,77] 0 ⟨fr,H⟩=⟨[(77,(.d (I (0:Int)))),(76,(.d (I l.length))),(75,(.d (.l (K1 10) (l.map AEntry.dv) t))),(18,(.d (I 0))),(16,(.d (I vol))),(14,(.d (I low))),(13,(.d (I now))),(12,(.d (I frm))),(10,(.p 0 0 0)),(3,(.d (I amt))),(2,(.d (I upto))),(1,(.d (I id)))],[some (.box (K1 7) (.d a.dv))]⟩) :
    kC T.env 0 fr H (.h (.loop [1,2,3,10,12,13,14,16,18,75,76,77] qmc,k))=k (.exit 1) [(78,.d (.b false)),(77,(.d (I (l.length:Int)))),(76,(.d (I l.length))),(75,(.d (.l (K1 10) (l.map AEntry.dv) t))),(18,(.d (I (qam (qgi id frm upto) 0 0 l)))),(16,(.d (I vol))),(14,(.d (I low))),(13,(.d (I now))),(12,(.d (I frm))),(10,(.p 0 0 0)),(3,(.d (I amt))),(2,(.d (I upto))),(1,(.d (I id)))] [some (.box (K1 7) (.d a.dv))]:=by
  rw[qcH l (fun i (b:Int)=>⟨[(77,(.d (I (i:Int)))),(76,(.d (I l.length))),(75,(.d (.l (K1 10) (l.map AEntry.dv) t))),(18,(.d (I b))),(16,(.d (I vol))),(14,(.d (I low))),(13,(.d (I now))),(12,(.d (I frm))),(10,(.p 0 0 0)),(3,(.d (I amt))),(2,(.d (I upto))),(1,(.d (I id)))],[some (.box (K1 7) (.d a.dv))]⟩) (fun _ _=>True) (fun i b x c=>c (qgi id frm upto i b x)) (fun b=>k (.exit 1) [(78,.d (.b false)),(77,(.d (I (l.length:Int)))),(76,(.d (I l.length))),(75,(.d (.l (K1 10) (l.map AEntry.dv) t))),(18,(.d (I b))),(16,(.d (I vol))),(14,(.d (I low))),(13,(.d (I now))),(12,(.d (I frm))),(10,(.p 0 0 0)),(3,(.d (I amt))),(2,(.d (I upto))),(1,(.d (I id)))] [some (.box (K1 7) (.d a.dv))]) ?_ ?_ h0 trivial]
  · rw[qiO (qgi id frm upto) _ _ (fun _ _ _ _=>rfl)]
  · intro B _ b _
    simp[qmc]
  · intro B _ i b hi _ c hc
    have hm:=mxl
    have h1:(i:Int)<l.length:=by omega
    have h3:=wr1 (i:=i) (by omega)
    have hl:l[i].Legs.l.length≤maxLen:=((ho _ (zzs hi)).2.2.2.2.2.2.2.2.1).1
    have hv:=qxG T hT l[i] id hl
    obtain⟨q,hq⟩ : ∃q,tch id l[i]=q:=⟨_,rfl⟩;rw[hq] at hv;simp[qmc,h1,hi];repeat' (refine qbV (fun h => ?_) (fun h => ?_)<;>(try simp at h)<;>(try simp[h,h3,hv]))
    all_goals first
      | (have e:(qgi id frm upto) i b l[i]=w64 (b+1):=by
           simp[qgi, *];try (intros;omega)
         rw[e];exact hc _ _ _ trivial (by simp[gc,Fr.keep,qae,qac,qab,PV.refs,qad,gcH,qag,Obj.refs,PV.ren,Obj.ren,Heap.obj,Fr.ren,gh,zzd,w64];try rfl))
      | (have e:(qgi id frm upto) i b l[i]=b:=by
           simp[qgi, *];try (intros;omega)
         rw[e];exact hc _ _ _ trivial (by simp[gc,Fr.keep,qae,qac,qab,PV.refs,qad,gcH,qag,Obj.refs,PV.ren,Obj.ren,Heap.obj,Fr.ren,gh,zzd];try rfl))
def qgx:List Int→Int
  | []=>0
  |x::r=>r.foldl min x
theorem qrF : ∀(r:List Int) (i:Nat) (b:Int),qam (fun _ b x=>min b x) i b r=r.foldl min b
  | [],_,_=>rfl
  |x::r,i,b=>by rw[qam,qrF r,List.foldl_cons]
theorem qyD (T:Tab) (x:Int) (l:List Int) (t:Bool) (hn:l.length<maxLen) {k:KC (PV×Bool)} {fr:Fr} {H:Heap} (h0:gc [0,3,4] 0 ⟨fr,H⟩=⟨[(4,.d (I 1)),(3,.d (I x)),(0,.d (.l K0 (I x::l.map I) t))],[]⟩) :
    kC T.env 0 fr H (.h (.loop [0,3,4] qmd,k))=k (.exit 0) [(15,.d (.b false)),(4,.d (I (l.length+1))),(3,.d (I (l.foldl min x))),(0,.d (.l K0 (I x::l.map I) t))] []:=by
  have hm:=mxl
  rw[qcH l (fun i (b:Int)=>⟨[(4,.d (I ((i:Int)+1))),(3,.d (I b)),(0,.d (.l K0 (I x::l.map I) t))],[]⟩) (fun _ _=>True) (fun i b y c=>c (min b y)) (fun b=>k (.exit 0) [(15,.d (.b false)),(4,.d (I (l.length+1))),(3,.d (I b)),(0,.d (.l K0 (I x::l.map I) t))] []) ?_ ?_ (by simpa using h0) trivial]
  · rw[qiO (fun _ b y=>min b y) _ _ (fun _ _ _ _=>rfl),qrF]
  · intro B _ b _
    simp[qmd]
  · intro B _ i b hi _ c hc
    have h1:(i:Int)+1<l.length+1:=by omega
    have h3:IntKind.i64.wrap ((i:Int)+1+1)=(i:Int)+1+1:=wrI (by omega) (by omega)
    have h4:(0:Int)≤(i:Int)+1:=by omega
    have h5:((i:Int)+1).toNat=i+1:=by omega
    simp[qmd,h1,hi,h3,h4,↓qEl];exact hc _ _ _ trivial (by simp[gc,Fr.keep,qae,qac,qab,PV.refs,gcH,PV.ren,Obj.ren,Heap.obj,Fr.ren,gh])
theorem qEH (T:Tab) (hT:HV T) (x:Int) (l:List Int) (t:Bool) (hn:l.length<maxLen):T.val 881 [.l K0 ((x::l).map I) t]=some (.d (I (qgx (x::l))),false):=by
  rw[qaf T (hT 881 qkW rfl) rfl];have h1 : ¬((l.length:Int)+1<1):=by omega
  have h2:(0:Int)<(l.length:Int)+1:=by omega
  have lp:=fun k fr H => @qyD T x l t hn k fr H
  simp[qkW,Fr.ofArgs,h1,h2];refine (lp _ _ _ (by simp[gc,Fr.keep,qae,qac,qab,PV.refs,gcH,PV.ren,Obj.ren,Heap.obj,Fr.ren,gh])).trans ?_
  simp[qgx]
end Go.Sim
end
section
namespace Go.Sim
set_option maxRecDepth 10000
set_option maxHeartbeats 4000000
def Ans {R:Type} (Q:R→Prop) (x:Option R):Prop:=∃r,x=some r∧Q r
theorem qpQ {R:Type} {Q:R→Prop} {c:Bool} {x y:Option R} (h1:c=true→Ans Q x) (h2:c=false→Ans Q y):Ans Q (brn c (.h (x,y))):=by
 cases c with
 |true=>exact h1 rfl
 |false=>exact h2 rfl
theorem qb8 {R:Type} {Q:R→Prop} {r:R} (h:Q r):Ans Q (some r):=⟨r,rfl,h⟩
def IsI (r:PV×Bool):Prop:=∃n:Int,r=(.d (I n),false)
def IsB (r:PV×Bool):Prop:=∃b:Bool,r=(.d (.b b),false)
theorem qsu {x:Option (PV×Bool)} (h:Ans IsI x) : ∃n:Int,x=some (.d (I n),false):=by obtain⟨r,h1,n,h2⟩:=h;exact⟨n,by rw[h1,h2]⟩
theorem qoK {x:Option (PV×Bool)} (h:Ans IsB x) : ∃b:Bool,x=some (.d (.b b),false):=by obtain⟨r,h1,n,h2⟩:=h;exact⟨n,by rw[h1,h2]⟩
theorem qs8 (T:Tab) (hT:HT T) (op:Int) : ∃n:Int,T.val 414 [I op]=some (.d (I n),false):=by
 rw[qaf T (hT 414 qfk rfl) rfl];by_cases c1:op=1
 ·subst c1;refine⟨0,?_⟩
  simp[qfk,Fr.ofArgs]
 have d1:=qai c1
 by_cases c2:op=2
 ·subst c2;refine⟨0,?_⟩
  simp[qfk,Fr.ofArgs]
 have d2:=qai c2
 by_cases c3:op=3
 ·subst c3;refine⟨0,?_⟩
  simp[qfk,Fr.ofArgs]
 have d3:=qai c3
 by_cases c4:op=4
 ·subst c4;refine⟨0,?_⟩
  simp[qfk,Fr.ofArgs]
 have d4:=qai c4
 by_cases c9:op=9
 ·subst c9;refine⟨1,?_⟩
  simp[qfk,Fr.ofArgs]
 have d9:=qai c9
 by_cases c16:op=16
 ·subst c16;refine⟨1,?_⟩
  simp[qfk,Fr.ofArgs]
 have d16:=qai c16
 by_cases c19:op=19
 ·subst c19;refine⟨3,?_⟩
  simp[qfk,Fr.ofArgs]
 have d19:=qai c19
 by_cases h1:5≤op
 ·by_cases h2:op≤18
  ·refine⟨2,?_⟩;simp[qfk,Fr.ofArgs,d1,d2,d3,d4,d9,d16,d19,h1,h2]
  ·refine⟨-1,?_⟩;simp[qfk,Fr.ofArgs,d1,d2,d3,d4,d9,d16,d19,h1,h2]
 ·refine⟨-1,?_⟩;simp[qfk,Fr.ofArgs,d1,d2,d3,d4,d9,d16,d19,h1]
theorem qBJ (T:Tab) (hT:HT T) (x:AExpr) : ∃b:Bool,T.val 408 [x.dv]=some (.d (.b b),false):=by
 apply qoK
 obtain⟨N,e⟩ : ∃N:Int→Int,∀op,T.val 414 [I op]=some (.d (I (N op)),false):=⟨fun op=>Classical.choose (qs8 T hT op),fun op=>Classical.choose_spec (qs8 T hT op)⟩
 rw[qaf T (hT 408 qjU rfl) rfl];simp[qjU,Fr.ofArgs];repeat' (refine qpQ (fun h => ?_) (fun h => ?_)<;>(try simp at h)<;>(try simp[h,↓qa4,↓qa3,↓qaR,↓qa6,↓qaT,qaU,↓qaS,↓qbd,↓qaP,↓qaZ,↓qa2,↓qbC,↓qbq,qaK,writeS,touchS,qak,qax,chg,qaI,qaF,qau,qaH,PV.refs,PV.refsL,IOp.okD,Nat.testBit,e]))
 all_goals exact qb8 (show IsB _ from⟨_,rfl⟩)
theorem qiX {α β:Type} [Nonempty β] {l:List α} {P:α→β→Prop} (h : ∀a∈l,∃b,P a b) : ∃g:α→β,∀a∈l,P a (g a) :=
 ⟨fun a=>Classical.epsilon (P a),fun a ha=>Classical.epsilon_spec (h a ha)⟩
theorem qjR {x:AExpr} {l:List AExpr} (h:x.Args.l=l.map AExpr.dv) {a:AExpr} (ha:a∈l):SizeOf.sizeOf a.dv<SizeOf.sizeOf x.dv:=by
 have:=List.sizeOf_lt_of_mem (List.mem_map_of_mem (f:=AExpr.dv) ha)
 rw[←h] at this;simp only[AExpr.dv,DV.a.sizeOf_spec,List.cons.sizeOf_spec,DV.l.sizeOf_spec] at this⊢;omega
theorem qjB {x:AExpr} (hx:x.ok) : ∃l:List AExpr,x.Args.l=l.map AExpr.dv∧(∀a∈l,a.ok)∧l.length*56≤140737488355328:=by
 obtain⟨o,m,s,a⟩:=x;obtain⟨a,t⟩:=a;obtain⟨_,_,_,hX⟩:=hx;simp only at hX;obtain⟨h1,l,h2,h3⟩:=qoS hX;refine⟨l,h2,h3,?_⟩;cases hX with|mk _ _ _ h=>rw[h2] at h;simpa[qb1] using h
theorem qxr (T:Tab) (l:List AExpr) (t:Bool) (g:AExpr→Int) (hg : ∀a∈l,T.val 405 [a.dv]=some (.d (I (g a)),false)) (hn:l.length*56≤140737488355328) {k:KC (PV×Bool)} {r:Option (PV×Bool)} {fr:Fr} {H:Heap}
  (he:k (.exit 0) [(10,.d (.b false)),(9,.d (I l.length)),(8,.d (I l.length)),(7,.d (.l (K1 4) (l.map AExpr.dv) t)),(3,.d (I (l.foldl (fun n a=>IntKind.i64.wrap (n+g a)) 1)))] []=r)
  (h0:gc [3,7,8,9] 0 ⟨fr,H⟩=⟨[(9,.d (I 0)),(8,.d (I l.length)),(7,.d (.l (K1 4) (l.map AExpr.dv) t)),(3,.d (I 1))],[]⟩) :
  kC T.env 0 fr H (.h (.loop [3,7,8,9] qmv,k))=r:=by
 refine qhP (fun p:Nat×Int=>⟨[(9,.d (I p.1)),(8,.d (I l.length)),(7,.d (.l (K1 4) (l.map AExpr.dv) t)),(3,.d (I p.2))],[]⟩) (fun i=>(i,(l.take i).foldl (fun n a=>IntKind.i64.wrap (n+g a)) 1)) l.length ?_ ?_ (by rw[h0];rfl)
 ·intro B _;simp only[List.take_length];rw[←he];have h1 : ¬((l.length:Int)<l.length):=by omega
  simp[qmv]
 ·intro B _ i hi c hc;have h1:(i:Int)<l.length:=by omega
  have h3:=wr1 (i:=i) (by omega)
  have e:=hg l[i] (zzs hi)
  simp only[List.take_succ_eq_append_getElem hi,List.foldl_append,List.foldl_cons,List.foldl_nil] at hc;simp only;generalize (l.take i).foldl (fun n a=>IntKind.i64.wrap (n+g a)) 1=m at *
  simp[qmv,h1,hi,h3,e];exact hc _ _ (by simp[gc,Fr.keep,qae,qac,qab,PV.refs,gcH,PV.ren,Obj.ren,Heap.obj,Fr.ren,gh])
theorem qAD (T:Tab) (hT:HT T) : ∀(n:Nat) (x:AExpr),SizeOf.sizeOf x.dv<n→x.ok→∃v:Int,T.val 405 [x.dv]=some (.d (I v),false):=by
 intro n;induction n with
 |zero=>intro x h;exact absurd h (zzm _)
 |succ n ih =>
  intro x hn hx;obtain⟨l,h2,h3,h4⟩:=qjB hx;obtain⟨g,hg⟩:=qiX (P:=fun a v=>T.val 405 [a.dv]=some (.d (I v),false)) (fun a ha=>ih a (by have:=qjR h2 ha;omega) (h3 a ha))
  have lp:=fun k r fr H => @qxr T l x.Args.t g hg h4 k r fr H
  refine⟨l.foldl (fun n a=>IntKind.i64.wrap (n+g a)) 1,?_⟩
  rw[qaf T (hT 405 qjA rfl) rfl];obtain⟨o,m,s,a⟩:=x;obtain⟨a,t⟩:=a;simp only at h2 lp;subst h2;simp[qjA,Fr.ofArgs];refine lp _ _ _ _ ?_ (by simp[gc,Fr.keep,qae,qac,qab,PV.refs,gcH,PV.ren,Obj.ren,Heap.obj,Fr.ren,gh])
  simp
theorem qyk (T:Tab) (l:List AExpr) (t:Bool) (g:AExpr→Int) (hg : ∀a∈l,T.val 406 [a.dv]=some (.d (I (g a)),false)) (hn:l.length*56≤140737488355328) {k:KC (PV×Bool)} {r:Option (PV×Bool)} {fr:Fr} {H:Heap}
  (he:k (.exit 0) [(10,.d (.b false)),(9,.d (I l.length)),(8,.d (I l.length)),(7,.d (.l (K1 4) (l.map AExpr.dv) t)),(3,.d (I (l.foldl (fun n a=>max n (g a)) 0)))] []=r)
  (h0:gc [3,7,8,9] 0 ⟨fr,H⟩=⟨[(9,.d (I 0)),(8,.d (I l.length)),(7,.d (.l (K1 4) (l.map AExpr.dv) t)),(3,.d (I 0))],[]⟩) :
  kC T.env 0 fr H (.h (.loop [3,7,8,9] qlG,k))=r:=by
 refine qhP (fun p:Nat×Int=>⟨[(9,.d (I p.1)),(8,.d (I l.length)),(7,.d (.l (K1 4) (l.map AExpr.dv) t)),(3,.d (I p.2))],[]⟩) (fun i=>(i,(l.take i).foldl (fun n a=>max n (g a)) 0)) l.length ?_ ?_ (by rw[h0];rfl)
 ·intro B _;simp only[List.take_length];rw[←he];have h1 : ¬((l.length:Int)<l.length):=by omega
  simp[qlG]
 ·intro B _ i hi c hc;have h1:(i:Int)<l.length:=by omega
  have h3:=wr1 (i:=i) (by omega)
  have e:=hg l[i] (zzs hi)
  simp only[List.take_succ_eq_append_getElem hi,List.foldl_append,List.foldl_cons,List.foldl_nil] at hc;simp only;generalize (l.take i).foldl (fun n a=>max n (g a)) 0=m at *
  simp[qlG,h1,hi,h3,e];exact hc _ _ (by simp[gc,Fr.keep,qae,qac,qab,PV.refs,gcH,PV.ren,Obj.ren,Heap.obj,Fr.ren,gh])
theorem qza (T:Tab) (hT:HT T) : ∀(n:Nat) (x:AExpr),SizeOf.sizeOf x.dv<n→x.ok→∃v:Int,T.val 406 [x.dv]=some (.d (I v),false):=by
 intro n;induction n with
 |zero=>intro x h;exact absurd h (zzm _)
 |succ n ih =>
  intro x hn hx;obtain⟨l,h2,h3,h4⟩:=qjB hx;obtain⟨g,hg⟩:=qiX (P:=fun a v=>T.val 406 [a.dv]=some (.d (I v),false)) (fun a ha=>ih a (by have:=qjR h2 ha;omega) (h3 a ha))
  have lp:=fun k r fr H => @qyk T l x.Args.t g hg h4 k r fr H
  refine⟨IntKind.i64.wrap (l.foldl (fun n a=>max n (g a)) 0+1),?_⟩
  rw[qaf T (hT 406 qkJ rfl) rfl];obtain⟨o,m,s,a⟩:=x;obtain⟨a,t⟩:=a;simp only at h2 lp;subst h2;simp[qkJ,Fr.ofArgs];refine lp _ _ _ _ ?_ (by simp[gc,Fr.keep,qae,qac,qab,PV.refs,gcH,PV.ren,Obj.ren,Heap.obj,Fr.ren,gh])
  simp
theorem qnA : ∀(H J:Heap),qab (H++J)=qab H++qab J
 | [],_=>rfl
 |x::H,J=>by rw[List.cons_append,qab,qab,qnA H J,List.append_assoc]
theorem qxX {H:Heap} (hH:Cl H) (k k':K) (v:DV) (h:Nat):Cl (H++[some (.box k (.d v)),some (.box k' (.f h []))]):=by
 intro r hr;have:r∈qab H:=by simpa[qnA,qab,qag,Obj.refs,PV.refs,PV.refsL] using hr
 have:=hH r this
 simp only[zzp,zzn,List.length_nil];omega
theorem qAh {H:Heap} (hH:Cl H) (k:K) (v:DV):Cl (H++[some (.box k (.d v))]):=by
 intro r hr;have:r∈qab H:=by simpa[qnA,qab,qag,Obj.refs,PV.refs,PV.refsL] using hr
 have:=hH r this
 simp only[zzp,zzn,List.length_nil];omega
theorem qAj (T:Tab) (hT:HT T) (p:AExpr→Bool) (c:PV) (H0:Heap) (hH:Cl H0) (hc : ∀r∈PV.refsL [c],r<H0.length) (l:List AExpr) (hv : ∀x∈l,T.ref 413 [.d x.dv,c] H0=some (.d (.b (p x)),H0)) (s:Bool) (hn:l.length≤maxLen) :
  T.ref 412 [.d (.l (K1 4) (l.map AExpr.dv) s),.f 413 [c]] H0=some (.d (.b (l.any p)),H0):=by
 have e:=qqk T (show T.F 419=some (qiV (K1 4)) from hT 419 qlj rfl) 413 AExpr.dv p c [] H0 hH hc l hv s hn
 have ea:=qst p l
 rw[qf8 T (hT 412 qkp rfl) rfl];simp[qkp,Fr.ofArgs,e,qfz,qnd hH,ea]
theorem qtw (T:Tab) (hT:HT T) (h:Nat) (hp : ∀a:AExpr,a.ok→∃b:Bool,T.val h [a.dv]=some (.d (.b b),false)) : ∀(n:Nat) (x:AExpr),SizeOf.sizeOf x.dv<n→x.ok→∃b:Bool,∀H0,Cl H0→T.ref 407 [.d x.dv,.f h []] H0=some (.d (.b b),H0):=by
 intro n;induction n with
 |zero=>intro x h;exact absurd h (zzm _)
 |succ n ih =>
  intro x hn hx;obtain⟨l,h2,h3,h4⟩:=qjB hx;obtain⟨g,hg⟩:=qiX (P:=fun a b=>∀H0,Cl H0→T.ref 407 [.d a.dv,.f h []] H0=some (.d (.b b),H0)) (fun a ha=>ih a (by have:=qjR h2 ha;omega) (h3 a ha))
  obtain⟨b,hb⟩:=hp x hx;refine⟨b && !(l.any fun a => !(g a)),fun H0 hH => ?_⟩
  have hC:=qxX hH (K1 4) K0 x.dv h
  have hm:=mxl
  have e412:=qAj T hT (fun a => !(g a)) (.p (H0.length+1) 0 0) _ hC (by simp[PV.refs,PV.refsL]) l (fun a ha=>by
   have e:=hg a ha _ (qAh hC (K1 4) a.dv)
   rw[qf8 T (hT 413 qjM rfl) rfl];simp[qjM,Fr.ofArgs,qkC,qjF,List.append_assoc] at e⊢;rw[e];simp[qfz]
   have:=qio hC [some (.box (K1 4) (.d a.dv))] (.b (!(g a)))
   simpa[List.append_assoc] using this) x.Args.t (by rw[hm];omega)
  obtain⟨o,m,s,a⟩:=x;obtain⟨a,t⟩:=a;simp only at h2;subst h2;rw[qf8 T (hT 407 qiK rfl) rfl];have hg1:=qio hH [some (.box (K1 4) (.d (AExpr.dv ⟨o,m,s,⟨l.map AExpr.dv,t⟩⟩))),some (.box K0 (.f h []))]
  cases b with
  |false =>
   simp[qiK,Fr.ofArgs,qot,qkC,qlL,qjF,qiZ,hb,qfz];exact hg1 _
  |true =>
   simp[qiK,Fr.ofArgs,qot,qkC,qlL,qjF,qiZ,hb,e412,qfz];exact hg1 _
def HNm (T:Tab):Prop:=∀s:List UInt8,s.length≤maxLen→∃b:Bool,T.val 415 [.s s]=some (.d (.b b),false)
theorem qzJ (T:Tab) (hT:HT T) (hN:HNm T) (x:AExpr) (hx:x.ok) : ∃b:Bool,T.val 409 [x.dv]=some (.d (.b b),false):=by
 apply qoK
 obtain⟨b,e⟩:=hN x.S hx.2.2.1;rw[qaf T (hT 409 qj6 rfl) rfl];simp[qj6,Fr.ofArgs];repeat' (refine qpQ (fun h => ?_) (fun h => ?_)<;>(try simp at h)<;>(try simp[h,e]))
 all_goals exact qb8 (show IsB _ from⟨_,rfl⟩)
theorem qAO (T:Tab) (hT:HT T) (hN:HNm T) (x:AExpr) (hx:x.ok) : ∃n:Int,T.val 399 [x.dv]=some (.d (I n),false):=by
 obtain⟨n,e1⟩:=qAD T hT _ x (Nat.lt_succ_self _) hx;obtain⟨m,e2⟩:=qza T hT _ x (Nat.lt_succ_self _) hx;obtain⟨b,e3⟩:=qtw T hT 408 (fun a _=>qBJ T hT a) _ x (Nat.lt_succ_self _) hx
 obtain⟨c,e4⟩:=qtw T hT 409 (fun a ha=>qzJ T hT hN a ha) _ x (Nat.lt_succ_self _) hx
 have e3':=e3 [some (.box (K1 4) (.d x.dv))] (by intro r hr;simp[qab,qag,Obj.refs,PV.refs] at hr)
 have e4':=e4 [some (.box (K1 4) (.d x.dv))] (by intro r hr;simp[qab,qag,Obj.refs,PV.refs] at hr)
 apply qsu
 rw[qaf T (hT 399 qkc rfl) rfl];simp[qkc,Fr.ofArgs,e1];repeat' (refine qpQ (fun h => ?_) (fun h => ?_)<;>(try simp at h)<;>(try simp[h,e2,e3',e4']))
 all_goals exact qb8 (show IsI _ from⟨_,rfl⟩)
end Go.Sim
end
end
section
namespace Go.Sim
def tabA28:PT :=
 (.bin 886 qkI (.bin 802 qg2 (.bin 800 qfC (.bin 717 qhh .nil .nil) .nil) (.bin 878 qi1 .nil .nil)) (.bin 1122 qho (.bin 932 qkA (.bin 887 qjx .nil .nil) .nil) (.bin 1124 qka .nil .nil)))
def H8 (T:Tab):Prop:=∀n F,tabA28.get n=some F→T.F n=some F
end Go.Sim
end
section
open Go.Sim
attribute [local simp ↓] qeM qdM qez qd6 qdv qdm qdx qeN sqK blK lpK qdb qdj qe9 qeH qeo qdC qeh qdo qdw qe0 qc7 qeP qdd qeE qd3 qeS qeB qeQ qd1 qdJ qec qeL qdg qfa qc9 qdS qdP qef qdV qe5 qe7 qdt qeG qeV qd7 qei qeu qco qcD qdL qdW qep qcL qey qdA qcT qej qdu qdf qdl qdB qc1 qdi qcX qda qdF qeU qex qdK qdE qe8 qc8 qet qeO qdn qcO qc0 qd2 qdh qcw qen qcZ qc2 qdO qcj qeY qeW qeZ qew qdU qeF qe3 qdk qdy qdq qe4 qd9 qdI qds qee qfd qfQ qfM qf1 qfV qfO qf3 qfZ qfU qfJ qfY qfP qgJ qfu
attribute [local simp] qcf qdH qea qdG qev qel qc5 qe1 qd0 qdT qeC rd IOp.adds qan gh nid rgK rdS qe6 qdD qdZ qdQ qdY qeT qdc qdp qdz qeD qd4 qer qeq qdN qc6 qeA qes qek qem qdR qe2 qff qfb qfi qcl qfn qfh qfm qfR qfK qfS qfL
section
namespace Go.Sim
set_option maxRecDepth 10000
set_option maxHeartbeats 4000000
theorem qti (T:Tab) (h8:H8 T) (hc:HCl T 956 (K1 4) 56) : ∀(n:Nat) (x:AExpr),SizeOf.sizeOf x.dv≤n→x.ok→T.val 932 [x.dv]=some (.d x.dv,false):=by
 intro n;induction n with
 |zero =>
  intro x hn _;exfalso
  have:0<SizeOf.sizeOf x.dv:=by rw[AExpr.dv];simp;omega
  omega
 |succ n ih =>
  intro x hn hx;obtain⟨_,_,_,hX⟩:=hx;obtain⟨h1,l,h2,h3⟩:=qoS hX;obtain⟨o,m,s,a⟩:=x;obtain⟨a,t⟩:=a;simp only at h1 h2 hX;subst h2;have ht:t=false:=by cases hX;rfl
  subst ht;have hb:l.length*56≤140737488355328:=by cases hX with|mk _ _ _ h=>simpa[qb1] using h
  have e0:=qy1 hc (es:=l.map AExpr.dv) (t:=false) (by simpa[qb1] using hb)
  have ihl : ∀i (h:i<l.length),T.val 932 [(l[i]).dv]=some (.d (l[i]).dv,false):=fun i h=>ih l[i] (by have:=List.sizeOf_lt_of_mem (List.mem_map_of_mem (f:=AExpr.dv) (zzs h));simp only[AExpr.dv,DV.a.sizeOf_spec,List.cons.sizeOf_spec,DV.l.sizeOf_spec] at hn this⊢;omega) (h3 _ (zzs h))
  rw[qaf T (h8 932 qkA rfl) rfl];simp[qkA,Fr.ofArgs,e0,qf7,qas,↓qmG,↓qmO,qde];refine qcN (fun i:Nat=>⟨[(11,.d (I i)),(10,.d (I l.length)),(2,.p 0 0 0),(1,.p 1 0 0)],[some (.box (K1 4) (.d (.a [I 0,I 0,.s [],.l (K1 4) [] true]))),some (.box (K1 4) (.a (((AExpr.dv ⟨o,m,s,⟨l.map AExpr.dv,false⟩⟩).cells.map PV.d).set 3 (.r 2 (K1 4) 0 l.length false)))),some (.sl (K1 4) 0 (l.map AExpr.dv))]⟩) (fun i=>i≤l.length) (fun i=>l.length-i) ?_ 0 (Nat.zero_le _) (by simp[gc,Fr.keep,qae,qac,qab,PV.refs,PV.refsL,qad,gcH,qag,Obj.refs,PV.ren,PV.renL,Obj.ren,Heap.obj,Fr.ren,gh,zzd,AExpr.dv,qbR])
  rintro B-i hi hx;by_cases hlt:i<l.length
  ·have h1:(i:Int)<l.length:=by omega
   have h3:=wr1 (i:=i) (by omega)
   have hx':=hx (i+1) (by omega) (by omega)
   have e:=ihl i hlt
   simp[qnK,h1,hlt,h3,e,↓qmO,↓qa4,↓qa3,↓qaR,↓qbf,↓qaT,qaU,↓qaS,↓qaP,↓qbg,↓qa2,↓qa8,↓qbq,qaK,writeS,touchS,qak,qax,chg,qaI,qaF,qau,qaH,PV.refs,IOp.okD,Nat.testBit,↓qin,-qcj,↓qjQ,↓qkQ,↓qh1];have hse:(l.map AExpr.dv).set i l[i].dv=l.map AExpr.dv:=by
    have h0:(l.map AExpr.dv)[i]'(by simpa using hlt)=l[i].dv:=List.getElem_map ..
    rw[←h0];exact List.set_getElem_self ..
   rw[hse];exact hx' _ _ (by simp[gc,Fr.keep,qae,qac,qab,PV.refs,PV.refsL,qad,gcH,qag,Obj.refs,PV.ren,PV.renL,Obj.ren,Heap.obj,Fr.ren,gh,zzd,AExpr.dv,qbR])
  ·have:i=l.length:=by omega
   subst this;have h1 : ¬((l.length:Int)<l.length):=by omega
   simp[qnK,qhf];refine (qzs (xs:=(AExpr.dv ⟨o,m,s,⟨l.map AExpr.dv,false⟩⟩).cells) ?_).trans rfl;exact qBV (qq8 _ _) rfl rfl (by simp)
end Go.Sim
end
end
section
namespace Go.Sim
theorem qhd {x y:List UInt8} (h : ¬x=y):(x==y)=false:=by simpa using h
end Go.Sim
end
section
open Go.Sim
attribute [local simp ↓] qeM qdM qez qd6 qdv qdm qdx qeN sqK blK lpK qdb qdj qe9 qeH qeo qdC qeh qdo qdw qe0 qc7 qeP qdd qeE qd3 qeS qeB qeQ qd1 qdJ qec qeL qdg qfa qc9 qdS qdP qef qdV qe5 qe7 qdt qeG qeV qd7 qei qeu qco qcD qdL qdW qep qcL qey qdA qcT qej qdu qdf qdl qdB qc1 qdi qcX qda qdF qeU qex qdK qdE qe8 qc8 qet qeO qdn qcO qc0 qd2 qdh qcw qen qcZ qc2 qdO qcj qeY qeW qeZ qew qdU qeF qe3 qdk qdy qdq qe4 qd9 qdI qds qee qfd qfQ qfM qf1 qfV qfO qf3 qfZ qfU qfJ qfY qfP qgJ qfu
attribute [local simp] qcf qdH qea qdG qev qel qc5 qe1 qd0 qdT qeC rd IOp.adds qan gh nid rgK rdS qe6 qdD qdZ qdQ qdY qeT qdc qdp qdz qeD qd4 qer qeq qdN qc6 qeA qes qek qem qdR qe2 qff qfb qfi qcl qfn qfh qfm qfR qfK qfS qfL
section
namespace Go.Sim
set_option maxRecDepth 10000
set_option maxHeartbeats 4000000
def qcv (s:List UInt8):List AVar→Int×Int
 | []=>(0,4)
 |v::r=>if v.Name=s then (if qd8 v.Typ=true then (v.Typ,0) else (0,3)) else qcv s r
theorem qtQ (s:List UInt8) : ∀(a b:List AVar),(∀v∈a,v.Name≠s)→qcv s (a++b)=qcv s b
 | [],_,_=>rfl
 |v::a,b,h=>by
  rw[List.cons_append,qcv,if_neg (h v (by simp))]
  exact qtQ s a b fun w hw=>h w (by simp[hw])
theorem qpx (s:List UInt8) : ∀(a:List AVar),(∀v∈a,v.Name≠s)→qcv s a=(0,4)
 | [],_=>rfl
 |v::a,h=>by
  rw[qcv,if_neg (h v (by simp))]
  exact qpx s a fun w hw=>h w (by simp[hw])
theorem qll {α:Type} (l:List α) (i:Nat) (h:i<l.length):l=l.take i++l[i]::l.drop (i+1):=by
 rw[List.getElem_cons_drop,List.take_append_drop]
theorem qy8 (T:Tab) (hT:HT T) (s:List UInt8) (vs:List AVar) (t:Bool) (hn:vs.length≤1000) {k:KC (PV×Bool)} {r:Option (PV×Bool)} {fr:Fr} {H:Heap}
  (he:qcv s vs=(0,4)→k (.exit 0) [(11,.d (.b false)),(10,.d (I vs.length)),(9,.d (I vs.length)),(8,.d (.l (K1 2) (vs.map AVar.dv) t)),(0,.d (.s s))] []=r)
  (hr : ∀fr J,fr.get 4 = .d (I (qcv s vs).1)→fr.get 5 = .d (I (qcv s vs).2)→qaz fr=[]→k .ret fr J=r)
  (h0:gc [0,8,9,10] 0 ⟨fr,H⟩=⟨[(10,.d (I 0)),(9,.d (I vs.length)),(8,.d (.l (K1 2) (vs.map AVar.dv) t)),(0,.d (.s s))],[]⟩) :
  kC T.env 0 fr H (.h (.loop [0,8,9,10] qjp,k))=r:=by
 refine qcN (fun i:Nat=>⟨[(10,.d (I i)),(9,.d (I vs.length)),(8,.d (.l (K1 2) (vs.map AVar.dv) t)),(0,.d (.s s))],[]⟩) (fun i=>i≤vs.length∧∀v∈vs.take i,v.Name≠s) (fun i=>vs.length-i) ?_ 0 ⟨Nat.zero_le _,by simp⟩ h0
 rintro B-i ⟨hi,ha⟩ hx;by_cases hlt:i<vs.length
 ·have h1:(i:Int)<vs.length:=by omega
  have h3:=wr1 (i:=i) (by omega)
  have e:=qtZ T hT vs[i].Typ
  by_cases hs:vs[i].Name=s
  ·have hv:qcv s vs=if qd8 vs[i].Typ=true then (vs[i].Typ,0) else (0,3):=by
    conv=>lhs;rw[qll vs i hlt,qtQ s _ _ ha,qcv,if_pos hs]
   rw[hv] at hr;cases hk:qd8 vs[i].Typ with
   |true =>
    rw[hk] at e hr;simp only[if_true] at hr;simp[qjp,h1,hlt,hs,e];exact hr _ _ (by simp[Fr.get]) (by simp[Fr.get]) (by simp[qaz,gh])
   |false =>
    rw[hk] at e hr;simp only[zzg,if_false] at hr;simp[qjp,h1,hlt,hs,e];exact hr _ _ (by simp[Fr.get]) (by simp[Fr.get]) (by simp[qaz,gh])
  ·have g:=qhd hs
   have hx':=hx (i+1) ⟨by omega,by
    rw[List.take_succ_eq_append_getElem hlt];intro v hv;rcases List.mem_append.1 hv with hv|hv
    ·exact ha v hv
    ·rw[List.mem_singleton.1 hv];exact hs⟩ (by omega)
   simp[qjp,h1,hlt,g,h3];exact hx' _ _ (by simp[gc,Fr.keep,qae,qac,qab,PV.refs,gcH,PV.ren,Obj.ren,Heap.obj,Fr.ren,gh])
 ·have:i=vs.length:=by omega
  subst this;rw[List.take_length] at ha;have he':=he (qpx s vs ha)
  have h1 : ¬((vs.length:Int)<vs.length):=by omega
  simp[qjp];exact he'
theorem qBm (T:Tab) (hT:HT T) (s:List UInt8) (vs:List AVar) (t:Bool) (hn:vs.length≤1000):T.val 410 [.s s,.l (K1 2) (vs.map AVar.dv) t]=some (two (qcv s vs)):=by
 have lp:=fun k r fr H => @qy8 T hT s vs t hn k r fr H
 rw[qaf T (hT 410 qkT rfl) rfl];unfold two;simp[qkT,Fr.ofArgs];refine lp _ _ _ _ (fun h => ?_) (fun fr J h4 h5 hg => ?_) (by simp[gc,Fr.keep,qae,qac,qab,PV.refs,gcH,PV.ren,Obj.ren,Heap.obj,Fr.ren,gh])
 ·rw[h];simp
 ·simp[h4,h5,hg]
def qbQ {α:Type} (g:α→Int):List α→Int
 | []=>0
 |a::r=>if g a=0 then qbQ g r else g a
theorem qlk {α:Type} (g:α→Int) : ∀(a b:List α),(∀v∈a,g v=0)→qbQ g (a++b)=qbQ g b
 | [],_,_=>rfl
 |v::a,b,h=>by
  rw[List.cons_append,qbQ,if_pos (h v (by simp))]
  exact qlk g a b fun w hw=>h w (by simp[hw])
theorem qic {α:Type} (g:α→Int) : ∀(a:List α),qbQ g a=0↔∀v∈a,g v=0
 | []=>by simp[qbQ]
 |v::a=>by
  rw[qbQ];by_cases h:g v=0
  ·rw[if_pos h,qic g a];simp[h]
  ·rw[if_neg h];simp[h]
theorem qBw (T:Tab) (l:List AExpr) (t:Bool) (g:AExpr→Int×Int) (V w:DV) (hg : ∀a∈l,T.val 400 [a.dv,V]=some (two (g a))) (hn:l.length*56≤140737488355328) {k:KC (PV×Bool)} {r:Option (PV×Bool)} {fr:Fr} {H:Heap}
  (he:qbQ (fun a=>(g a).2) l=0→k (.exit 1) [(33,.d (.b false)),(32,.d (I l.length)),(31,.d (I l.length)),(30,.d (.l (K1 4) (l.map AExpr.dv) t)),(6,qav K0 (l.map fun a=>I (g a).1)),(2,pB 0 (l.map fun a=>I (g a).1)),(1,.d V)] (qb3 K0 [some (.box (K1 4) (.d w))] (l.map fun a=>I (g a).1))=r)
  (hr:qbQ (fun a=>(g a).2) l≠0→∀fr J,fr.get 4 = .d (I 0)→fr.get 5 = .d (I (qbQ (fun a=>(g a).2) l))→qaz fr=[]→k .ret fr J=r)
  (h0:gc [1,2,6,30,31,32] 0 ⟨fr,H⟩=⟨[(32,.d (I 0)),(31,.d (I l.length)),(30,.d (.l (K1 4) (l.map AExpr.dv) t)),(6,.d (.l K0 [] true)),(2,.p 0 0 0),(1,.d V)],[some (.box (K1 4) (.d w))]⟩) :
  kC T.env 0 fr H (.h (.loop [1,2,6,30,31,32] qia,k))=r:=by
 refine qcN (fun i:Nat=>⟨[(32,.d (I i)),(31,.d (I l.length)),(30,.d (.l (K1 4) (l.map AExpr.dv) t)),(6,qav K0 ((l.take i).map fun a=>I (g a).1)),(2,pB 0 ((l.take i).map fun a=>I (g a).1)),(1,.d V)],qb3 K0 [some (.box (K1 4) (.d w))] ((l.take i).map fun a=>I (g a).1)⟩) (fun i=>i≤l.length∧∀v∈l.take i,(g v).2=0) (fun i=>l.length-i) ?_ 0 ⟨Nat.zero_le _,by simp⟩ (by rw[h0];rfl)
 rintro B-i ⟨hi,ha⟩ hx;by_cases hlt:i<l.length
 ·have h1:(i:Int)<l.length:=by omega
  have h3:=wr1 (i:=i) (by omega)
  have e:=hg l[i] (zzs hlt)
  unfold two at e;have hl:((l.take i).map fun a=>I (g a).1).length≤i:=by simp;omega
  by_cases hs:(g l[i]).2=0
  ·have hx':=hx (i+1) ⟨by omega,by
    rw[List.take_succ_eq_append_getElem hlt];intro v hv;rcases List.mem_append.1 hv with hv|hv
    ·exact ha v hv
    ·rw[List.mem_singleton.1 hv];exact hs⟩ (by omega)
   rw[qqf (fun a:AExpr=>I (g a).1) l i hlt] at hx'
   rw[hs] at e;generalize (l.take i).map (fun a=>I (g a).1)=o at *
   cases o with
   |nil =>
    simp only[qav,qb3,pB,List.nil_append] at hx'⊢;simp[qia,h1,hlt,h3,e];exact hx' _ _ (by simp[gc,Fr.keep,qae,qac,qab,PV.refs,qad,gcH,qag,Obj.refs,PV.ren,Obj.ren,Heap.obj,Fr.ren,gh,zzd])
   |cons x o =>
    simp only[qav,qb3,pB,List.cons_append] at hx'⊢;simp only[zzn] at hl;have h5:(o.length+1+1)*8≤140737488355328:=by omega
    have ht:o.take o.length=o:=List.take_of_length_le (by simp)
    simp[qia,h1,hlt,h3,h5,ht,e];exact hx' _ _ (by simp[gc,Fr.keep,qae,qac,qab,PV.refs,qad,gcH,qag,Obj.refs,PV.ren,Obj.ren,Heap.obj,Fr.ren,gh,zzd])
  ·have hf:qbQ (fun a=>(g a).2) l=(g l[i]).2:=by
    conv=>lhs;rw[qll l i hlt,qlk _ _ _ ha,qbQ,if_neg hs]
   rw[hf] at hr;have hr':=hr hs
   have gs:=qai hs
   generalize (l.take i).map (fun a=>I (g a).1)=o at *
   cases o with
   |nil =>
    simp only[qav,qb3,pB] at⊢;simp[qia,h1,hlt,e,gs,bne];exact hr' _ _ (by simp[Fr.get]) (by simp[Fr.get]) (by simp[qaz,gh])
   |cons x o =>
    simp only[qav,qb3,pB] at⊢;simp[qia,h1,hlt,e,gs,bne];exact hr' _ _ (by simp[Fr.get]) (by simp[Fr.get]) (by simp[qaz,gh])
 ·have:i=l.length:=by omega
  subst this;rw[List.take_length] at ha⊢;have he':=he ((qic _ _).2 ha)
  have h1 : ¬((l.length:Int)<l.length):=by omega
  simp[qia];exact he'
def qon (op:Int) (l:List AExpr) (g:AExpr→Int×Int):Int×Int :=
 if qbQ (fun a=>(g a).2) l=0 then (if (qb9 op (l.map fun a=>(g a).1)).2=true then ((qb9 op (l.map fun a=>(g a).1)).1,0) else (0,3)) else (0,qbQ (fun a=>(g a).2) l)
theorem qqb (T:Tab) (hT:HT T) (x:AExpr) (vs:List AVar) (tv:Bool) (hv:vs.length≤1000) (h:x.Op=1∨x.Op=2∨x.Op=3∨x.Op=4) :
  T.val 400 [x.dv,.l (K1 2) (vs.map AVar.dv) tv]=some (two (if x.Op=4 then qcv x.S vs else (x.Op,0))):=by
 have e:=qBm T hT x.S vs tv hv
 unfold two at *
 rw[qaf T (hT 400 qgw rfl) rfl];rcases h with h|h|h|h
 ·rw[h,if_neg (by decide)]
  simp[qgw,Fr.ofArgs,h]
 ·rw[h,if_neg (by decide)]
  simp[qgw,Fr.ofArgs,h]
 ·rw[h,if_neg (by decide)]
  simp[qgw,Fr.ofArgs,h]
 ·rw[h,if_pos rfl];simp[qgw,Fr.ofArgs,h,e]
theorem qqH (T:Tab) (hT:HT T) (hA:HA T) (x:AExpr) (l:List AExpr) (h2:x.Args.l=l.map AExpr.dv) (hn:l.length*56≤140737488355328) (V:DV) (g:AExpr→Int×Int) (hg : ∀a∈l,T.val 400 [a.dv,V]=some (two (g a))) (n1:x.Op≠1) (n2:x.Op≠2) (n3:x.Op≠3) (n4:x.Op≠4) :
  T.val 400 [x.dv,V]=some (two (qon x.Op l g)):=by
 have lp:=fun w k r fr H => @qBw T l x.Args.t g V w hg hn k r fr H
 have hm:=mxl
 have e411:=fun b=>qmq T hT hA x.Op (l.map fun a=>(g a).1) b (by rw[zzo,hm];omega)
 simp only[List.map_map] at e411;have hmm:((fun n=>I n)∘fun a:AExpr=>(g a).1)=fun a:AExpr=>I (g a).1:=rfl
 rw[hmm] at e411;have g1:=qai n1
 have g2:=qai n2
 have g3:=qai n3
 have g4:=qai n4
 unfold qon;generalize qb9 x.Op (l.map fun a=>(g a).1)=p at *
 obtain⟨w,ok⟩:=p;unfold qbk at e411;simp only at e411⊢;obtain⟨o,m,s,a⟩:=x;obtain⟨a,t⟩:=a;simp only at h2 lp e411 g1 g2 g3 g4 n1 n2 n3 n4⊢;subst h2;rw[qaf T (hT 400 qgw rfl) rfl];unfold two;simp[qgw,Fr.ofArgs,g1,g2,g3,g4];refine lp (AExpr.dv ⟨o,m,s,⟨l.map AExpr.dv,t⟩⟩) _ _ _ _ (fun h => ?_) (fun h fr J h4 h5 hg' => ?_) (by simp[gc,Fr.keep,qae,qac,qab,PV.refs,qad,gcH,qag,Obj.refs,PV.ren,Obj.ren,Heap.obj,Fr.ren,gh,zzd])
 ·rw[if_pos h];cases ho:l.map (fun a=>I (g a).1) with
  |nil =>
   have ef:=e411 true
   rw[ho] at ef;cases ok with
   |false=>simp[qav,qb3,pB,ef]
   |true=>simp[qav,qb3,pB,ef]
  |cons y o' =>
   have ef:=e411 false
   rw[ho] at ef;have ht:o'.take o'.length=o':=List.take_of_length_le (by simp)
   cases ok with
   |false=>simp[qav,qb3,pB,ht,qbb,pur,qbO,PV.scal,PV.scal1,DV.scal,DV.scal1,ef]
   |true=>simp[qav,qb3,pB,ht,qbb,pur,qbO,PV.scal,PV.scal1,DV.scal,DV.scal1,ef]
 ·rw[if_neg h];simp[h4,h5,hg']
end Go.Sim
end
section
namespace Go.Sim
set_option maxRecDepth 10000
set_option maxHeartbeats 4000000
theorem qkf (x:Int) : -9223372036854775808≤(qb2 x).1∧(qb2 x).1<9223372036854775808:=by unfold qb2;split<;>simp<;>omega
theorem qjL (x:Int) : -9223372036854775808≤IntKind.i64.wrap x∧IntKind.i64.wrap x<9223372036854775808:=by rw[wI];omega
theorem qA5 (a b:AValue) : -9223372036854775808≤(qhL a b).1∧(qhL a b).1<9223372036854775808:=by
 unfold qhL;split
 ·split
  ·decide
  ·exact qjL _
 ·split
  ·decide
  ·split<;>exact qkf _
theorem qwK (op:Int) (a b:AValue) : -9223372036854775808≤(qiB op a b).1∧(qiB op a b).1<9223372036854775808:=by
 unfold qiB qk0;split
 ·exact qkf _
 ·split
  ·exact qkf _
  ·split
   ·split<;>exact qkf _
   ·split
    ·decide
    ·exact qA5 a b
theorem qAM (op:Int) : ∀vs:List AValue,-9223372036854775808≤(clP op vs).1∧(clP op vs).1<9223372036854775808
 | []=>by simp[clP]
 | [_]=>qkf _
 | [a,b]=>qwK op a b
 | _::_::_::_=>by simp[clP]
theorem qip {v:AValue} (h:okV v=true) (h5:v.Typ=5):v.N=0∨v.N=1:=by
 unfold okV at h;rw[h5] at h;simpa using h
theorem qEa (op a b:Int) (ha : -9223372036854775808≤a∧a<9223372036854775808) (hb : -9223372036854775808≤b∧b<9223372036854775808) : -9223372036854775808≤qg5 op a b∧qg5 op a b<9223372036854775808:=by
 have:=qjL (a*b)
 unfold qg5;repeat' split
 all_goals omega
theorem qCB (op:Int) (vs:List AValue) (hi : ∀v∈vs,v.i) (hk : ∀v∈vs,okV v=true) (h:(qb9 op (vs.map (·.Typ))).2=true) (ho:op<5∨9<op) :
  (-9223372036854775808≤chP op vs∧chP op vs<9223372036854775808)∧((qb9 op (vs.map (·.Typ))).1=5→chP op vs=0∨chP op vs=1):=by
 unfold qb9 at h⊢;by_cases ha:(vs.map (·.Typ)).all qd8=true
 ·rw[if_pos ha] at h⊢;match vs,hi,hk,h with
  | [],_,_,h=>cases h
  | [a],hi,hk,h =>
   simp only[zzu,List.map_nil,chP] at h⊢;refine⟨qjL _,fun _ => ?_⟩
   have ho2:(qdX op a.Typ).2=true:=by
    by_cases c:(qdX op a.Typ).2=true
    ·exact c
    ·rw[if_neg c] at h;cases h
   have h16:op=16:=by have:=qsf ho2;omega
   subst h16;have h5:a.Typ=5:=by simpa[qdX] using ho2
   rcases qip (hk a (by simp)) h5 with e|e
   ·rw[e];exact .inr (by decide)
   ·rw[e];exact .inl (by decide)
  | [a,b],hi,hk,h =>
   simp only[zzu,List.map_nil,chP] at h⊢;have ia:=hi a (by simp)
   have ib:=hi b (by simp)
   unfold AValue.i at ia ib;refine⟨qEa op a.N b.N ia ib,fun h5 => ?_⟩
   have ho2:(qcU op a.Typ b.Typ).2=true:=by
    by_cases c:(qcU op a.Typ b.Typ).2=true
    ·exact c
    ·rw[if_neg c] at h;cases h
   rw[if_pos ho2] at h5;simp only at h5;unfold qcU at ho2 h5;by_cases h1:op=10∨op=11
   ·unfold qg5;rcases h1 with h1|h1<;>subst h1<;>simp<;>omega
   rw[if_neg h1] at ho2 h5;by_cases h2:op=12∨op=13
   ·unfold qg5;rcases h2 with h1|h1<;>subst h1<;>simp<;>omega
   rw[if_neg h2] at ho2 h5;by_cases h3:op=14∨op=15
   ·rw[if_pos h3] at ho2;have hb:a.Typ=b.Typ∧a.Typ=5:=by simpa using ho2
    have ka:=qip (hk a (by simp)) hb.2
    have kb:=qip (hk b (by simp)) (by rw[←hb.1];exact hb.2)
    unfold qg5;rcases h3 with h1|h1<;>subst h1<;>rcases ka with ka|ka<;>rcases kb with kb|kb<;>rw[ka,kb]<;>decide
   rw[if_neg h3] at ho2 h5;by_cases h4:op=17∨op=18
   ·rw[if_pos h4] at ho2 h5;have hb:a.Typ=b.Typ∧a.Typ≠5:=by simpa using ho2
    exact absurd h5 hb.2
   rw[if_neg h4] at ho2 h5;have hv:arV op a.Typ b.Typ≠0:=by simpa using ho2
   have:=qsk hv
   omega
  | [a,b,c],hi,hk,h =>
   simp only[zzu,List.map_nil,chP] at h⊢;have ib:=hi b (by simp)
   have ic:=hi c (by simp)
   unfold AValue.i at ib ic;refine⟨by split<;>assumption,fun h5 => ?_⟩
   by_cases c':op=19∧a.Typ=5∧b.Typ=c.Typ
   ·rw[if_pos c'] at h5;simp only at h5;have kb:=qip (hk b (by simp)) h5
    have kc:=qip (hk c (by simp)) (by rw[←c'.2.2];exact h5)
    split<;>assumption
   ·rw[if_neg c'] at h;cases h
  | _::_::_::_::_,_,_,h=>cases h
 ·rw[if_neg ha] at h;cases h
theorem qDg (op:Int) (vs:List AValue) (hi : ∀v∈vs,v.i) (h:(qb9 op (vs.map (·.Typ))).2=true) (h0:(qgr op vs).2=0) :
  (qgr op vs).1.Typ=(qb9 op (vs.map (·.Typ))).1∧(qgr op vs).1.i∧((qb9 op (vs.map (·.Typ))).1=5→(qgr op vs).1.N=0∨(qgr op vs).1.N=1):=by
 have hc:=qCB op vs hi
 unfold qgr qiG at h0⊢;rw[if_neg (by rw[h];decide)] at h0⊢
 by_cases ha:vs.all okV=true
 ·have hk : ∀v∈vs,okV v=true:=List.all_eq_true.1 ha
  rw[if_neg (by rw[ha];decide)] at h0⊢
  by_cases ho:op<5∨9<op
  ·obtain⟨c1,c2⟩:=hc hk h ho;rw[if_pos ho];exact⟨rfl,c1,c2⟩
  ·rw[if_neg ho] at h0⊢;by_cases hf:(clP op vs).2=0
   ·rw[if_pos hf] at h0⊢;by_cases hv:okV ⟨(qb9 op (vs.map (·.Typ))).1,(clP op vs).1⟩=true
    ·rw[if_pos hv];exact⟨rfl,qAM op vs,fun h5=>qip hv h5⟩
    ·rw[if_neg hv] at h0;cases h0
   ·rw[if_neg hf] at h0;exact absurd h0 hf
 ·rw[if_pos (by simpa using ha)] at h0;cases h0
def qge (s:List UInt8):List AVar→List AValue→AValue
 |v::r,w::q=>if v.Name=s then w else qge s r q
 | _,_=>⟨0,0⟩
theorem quB (s:List UInt8) : ∀(vs:List AVar) (es:List AValue) (i:Nat) (h:i<vs.length) (h':i<es.length),(∀v∈vs.take i,v.Name≠s)→vs[i].Name=s→qge s vs es=es[i]
 |v::vs,e::es,0,_,_,_,hs=>by
  rw[qge,if_pos (show v.Name=s from hs)];rfl
 |v::vs,e::es,i+1,h,h',ha,hs=>by
  rw[qge,if_neg (ha v (by simp))]
  exact quB s vs es i (by simpa using h) (by simpa using h') (fun w hw=>ha w (by simp[hw])) hs
theorem qCK (T:Tab) (x:AExpr) (vs:List AVar) (es:List AValue) (tv te:Bool) (hn:vs.length≤1000) (hl:vs.length=es.length) (hf:(qcv x.S vs).2=0) {k:KC (PV×Bool)} {r:Option (PV×Bool)} {fr:Fr} {H:Heap} (z:DV)
  (hr : ∀fr J,fr.get 6 = .p 0 0 0→fr.get 7 = .d (I 0)→qaz fr=[]→k .ret fr (some (.box (K1 2) (.d (qge x.S vs es).dv))::J)=r)
  (h0:gc [1,2,3,6,36,37,38] 0 ⟨fr,H⟩=⟨[(38,.d (I 0)),(37,.d (I vs.length)),(36,.d (.l (K1 2) (vs.map AVar.dv) tv)),(6,.p 0 0 0),(3,.p 1 0 0),(2,.d (.l (K1 2) (es.map AValue.dv) te)),(1,.d (.l (K1 2) (vs.map AVar.dv) tv))],[some (.box (K1 2) (.d z)),some (.box (K1 4) (.d x.dv))]⟩) :
  kC T.env 0 fr H (.h (.loop [1,2,3,6,36,37,38] qmE,k))=r:=by
 refine qcN (fun i:Nat=>⟨[(38,.d (I i)),(37,.d (I vs.length)),(36,.d (.l (K1 2) (vs.map AVar.dv) tv)),(6,.p 0 0 0),(3,.p 1 0 0),(2,.d (.l (K1 2) (es.map AValue.dv) te)),(1,.d (.l (K1 2) (vs.map AVar.dv) tv))],[some (.box (K1 2) (.d z)),some (.box (K1 4) (.d x.dv))]⟩) (fun i=>i≤vs.length∧∀v∈vs.take i,v.Name≠x.S) (fun i=>vs.length-i) ?_ 0 ⟨Nat.zero_le _,by simp⟩ h0
 rintro B-i ⟨hi,ha⟩ hx;by_cases hlt:i<vs.length
 ·have h1:(i:Int)<vs.length:=by omega
  have h1':(i:Int)<es.length:=by omega
  have hlt':i<es.length:=by omega
  have h3:=wr1 (i:=i) (by omega)
  by_cases hs:vs[i].Name=x.S
  ·rw[quB x.S vs es i hlt hlt' ha hs] at hr;simp[qmE,h1,h1',hlt,hlt',hs];exact hr _ _ (by simp[Fr.get]) (by simp[Fr.get]) (by simp[qaz,gh])
  ·have g:=qhd hs
   have hx':=hx (i+1) ⟨by omega,by
    rw[List.take_succ_eq_append_getElem hlt];intro v hv;rcases List.mem_append.1 hv with hv|hv
    ·exact ha v hv
    ·rw[List.mem_singleton.1 hv];exact hs⟩ (by omega)
   simp[qmE,h1,hlt,g,h3];exact hx' _ _ (by simp[gc,Fr.keep,qae,qac,qab,PV.refs,qad,gcH,qag,Obj.refs,PV.ren,Obj.ren,Heap.obj,Fr.ren,gh,zzd])
 ·exfalso
  have:i=vs.length:=by omega
  subst this;rw[List.take_length] at ha;rw[qpx x.S vs ha] at hf;cases hf
theorem qD4 (T:Tab) (x:AExpr) (l:List AExpr) (t:Bool) (g:AExpr→AValue×Int) (V E z:DV) (hg : ∀a∈l,T.val 947 [a.dv,V,E]=some (qbi (g a))) (hn:l.length*56≤140737488355328) {k:KC (PV×Bool)} {r:Option (PV×Bool)} {fr:Fr} {H:Heap}
  (he:qbQ (fun a=>(g a).2) l=0→k (.exit 3) [(85,.d (.b false)),(84,.d (I l.length)),(83,.d (I l.length)),(82,.d (.l (K1 4) (l.map AExpr.dv) t)),(12,qav (K1 2) (l.map fun a=>(g a).1.dv)),(6,pB 0 (l.map fun a=>(g a).1.dv)),(3,pB 1 (l.map fun a=>(g a).1.dv)),(2,.d E),(1,.d V)] (qb3 (K1 2) [some (.box (K1 2) (.d z)),some (.box (K1 4) (.d x.dv))] (l.map fun a=>(g a).1.dv))=r)
  (hr0:qbQ (fun a=>(g a).2) l≠0→∀fr J,fr.get 6 = .p 0 0 0→fr.get 7 = .d (I (qbQ (fun a=>(g a).2) l))→qaz fr=[]→k .ret fr (some (.box (K1 2) (.d (.a [I 0,I 0])))::J)=r)
  (hr1:qbQ (fun a=>(g a).2) l≠0→∀fr s J,fr.get 6 = .p 1 0 0→fr.get 7 = .d (I (qbQ (fun a=>(g a).2) l))→qaz fr=[]→k .ret fr (s::some (.box (K1 2) (.d (.a [I 0,I 0])))::J)=r)
  (h0:gc [1,2,3,6,12,82,83,84] 0 ⟨fr,H⟩=⟨[(84,.d (I 0)),(83,.d (I l.length)),(82,.d (.l (K1 4) (l.map AExpr.dv) t)),(12,.d (.l (K1 2) [] true)),(6,.p 0 0 0),(3,.p 1 0 0),(2,.d E),(1,.d V)],[some (.box (K1 2) (.d z)),some (.box (K1 4) (.d x.dv))]⟩) :
  kC T.env 0 fr H (.h (.loop [1,2,3,6,12,82,83,84] qie,k))=r:=by
 refine qcN (fun i:Nat=>⟨[(84,.d (I i)),(83,.d (I l.length)),(82,.d (.l (K1 4) (l.map AExpr.dv) t)),(12,qav (K1 2) ((l.take i).map fun a=>(g a).1.dv)),(6,pB 0 ((l.take i).map fun a=>(g a).1.dv)),(3,pB 1 ((l.take i).map fun a=>(g a).1.dv)),(2,.d E),(1,.d V)],qb3 (K1 2) [some (.box (K1 2) (.d z)),some (.box (K1 4) (.d x.dv))] ((l.take i).map fun a=>(g a).1.dv)⟩) (fun i=>i≤l.length∧∀v∈l.take i,(g v).2=0) (fun i=>l.length-i) ?_ 0 ⟨Nat.zero_le _,by simp⟩ (by rw[h0];rfl)
 rintro B-i ⟨hi,ha⟩ hx;by_cases hlt:i<l.length
 ·have h1:(i:Int)<l.length:=by omega
  have h3:=wr1 (i:=i) (by omega)
  have e:=hg l[i] (zzs hlt)
  unfold qbi at e;have hl:((l.take i).map fun a=>(g a).1.dv).length≤i:=by simp;omega
  by_cases hs:(g l[i]).2=0
  ·have hx':=hx (i+1) ⟨by omega,by
    rw[List.take_succ_eq_append_getElem hlt];intro v hv;rcases List.mem_append.1 hv with hv|hv
    ·exact ha v hv
    ·rw[List.mem_singleton.1 hv];exact hs⟩ (by omega)
   rw[qqf (fun a:AExpr=>(g a).1.dv) l i hlt] at hx'
   rw[hs] at e;generalize (l.take i).map (fun a=>(g a).1.dv)=o at *
   cases o with
   |nil =>
    simp only[qav,qb3,pB,List.nil_append] at hx'⊢;simp[qie,h1,hlt,h3,e];exact hx' _ _ (by simp[gc,Fr.keep,qae,qac,qab,PV.refs,qad,gcH,qag,Obj.refs,PV.ren,Obj.ren,Heap.obj,Fr.ren,gh,zzd])
   |cons y o =>
    simp only[qav,qb3,pB,List.cons_append] at hx'⊢;simp only[zzn] at hl;have h5:(o.length+1+1)*16≤140737488355328:=by omega
    have ht:o.take o.length=o:=List.take_of_length_le (by simp)
    simp[qie,h1,hlt,h3,h5,ht,e];exact hx' _ _ (by simp[gc,Fr.keep,qae,qac,qab,PV.refs,qad,gcH,qag,Obj.refs,PV.ren,Obj.ren,Heap.obj,Fr.ren,gh,zzd])
  ·have hf:qbQ (fun a=>(g a).2) l=(g l[i]).2:=by
    conv=>lhs;rw[qll l i hlt,qlk _ _ _ ha,qbQ,if_neg hs]
   rw[hf] at hr0 hr1;have gs:=qai hs
   generalize (l.take i).map (fun a=>(g a).1.dv)=o at *
   cases o with
   |nil =>
    have hr':=hr0 hs
    simp only[qav,qb3,pB] at⊢;simp[qie,h1,hlt,e,gs,bne,↓qaA,↓qaE,mkA,qal];exact hr' _ _ (by simp[Fr.get]) (by simp[Fr.get]) (by simp[qaz,gh])
   |cons y o =>
    have hr':=hr1 hs
    simp only[qav,qb3,pB] at⊢;simp[qie,h1,hlt,e,gs,bne,↓qaA,↓qaE,mkA,qal];exact hr' _ _ _ (by simp[Fr.get]) (by simp[Fr.get]) (by simp[qaz,gh])
 ·have:i=l.length:=by omega
  subst this;rw[List.take_length] at ha⊢;have he':=he ((qic _ _).2 ha)
  have h1 : ¬((l.length:Int)<l.length):=by omega
  simp[qie];exact he'
end Go.Sim
end
section
namespace Go.Sim
set_option maxRecDepth 10000
set_option maxHeartbeats 4000000
theorem qB0 {n:Int} (h:inK .i64 n) : -9223372036854775808≤n∧n≤9223372036854775807:=by
 unfold inK at h;simp[Lit.wf] at h;simp[IntKind.min,IntKind.signed,IntKind.bits] at h;omega
theorem qxE (v:AValue) (f:Int):PV.scal (.t [.d v.dv,.d (I f)])=true:=rfl
def qj7 (vs:List AVar) (es:List AValue):Prop:=vs.length=es.length∧∀i (h:i<vs.length) (h':i<es.length),es[i].Typ=vs[i].Typ∧es[i].i∧okV es[i]=true
theorem qCU {v:AVar} {w:AValue} {vs:List AVar} {es:List AValue} (h:qj7 (v::vs) (w::es)):qj7 vs es :=
 ⟨by simpa using h.1,fun i hi hi'=>h.2 (i+1) (Nat.succ_lt_succ hi) (Nat.succ_lt_succ hi')⟩
theorem qrV (s:List UInt8) : ∀(vs:List AVar) (es:List AValue),qj7 vs es→(qcv s vs).2=0→(qge s vs es).Typ=(qcv s vs).1∧(qge s vs es).i∧((qcv s vs).1=5→(qge s vs es).N=0∨(qge s vs es).N=1)
 | [],_,_,h=>by cases h
 |v::vs,[],hE,_=>by have:=hE.1;simp at this
 |v::vs,w::es,hE,h=>by
  rw[qcv] at h⊢;rw[qge];by_cases hs:v.Name=s
  ·rw[if_pos hs] at h⊢;rw[if_pos hs];obtain⟨e1,e2,e3⟩:=hE.2 0 (by simp) (by simp)
   simp only[List.getElem_cons_zero] at e1 e2 e3;by_cases hk:qd8 v.Typ=true
   ·rw[if_pos hk];exact⟨e1,e2,fun h5=>qip e3 (by rw[e1];exact h5)⟩
   ·rw[if_neg hk] at h;cases h
  ·rw[if_neg hs] at h⊢;rw[if_neg hs];exact qrV s vs es (qCU hE) h
theorem qxR (T:Tab) (hT:HT T) (x:AExpr) (V E:DV) (h:x.Op=1∨x.Op=2∨x.Op=3):T.val 947 [x.dv,V,E]=some (qbi (⟨x.Op,x.N⟩,0)):=by
 rw[qaf T (hT 947 qeJ rfl) rfl];rcases h with h|h|h
 ·rw[h];simp[qeJ,Fr.ofArgs,h,↓qaA,↓qaE,↓qaD,putAt,mkA,qas,qay,qbi,AValue.dv]
 ·rw[h];simp[qeJ,Fr.ofArgs,h,↓qaA,↓qaE,↓qaD,putAt,mkA,qas,qay,qbi,AValue.dv]
 ·rw[h];simp[qeJ,Fr.ofArgs,h,↓qaA,↓qaE,↓qaD,putAt,mkA,qas,qay,qbi,AValue.dv]
theorem qz5 (T:Tab) (hT:HT T) (x:AExpr) (vs:List AVar) (es:List AValue) (tv te:Bool) (hn:vs.length≤1000) (hl:vs.length=es.length) (h:x.Op=4) (hf:(qcv x.S vs).2=0):T.val 947 [x.dv,.l (K1 2) (vs.map AVar.dv) tv,.l (K1 2) (es.map AValue.dv) te]=some (qbi (qge x.S vs es,0)):=by
 have lp:=fun k r fr H => @qCK T x vs es tv te hn hl hf k r fr H (.a [I 0,I 0])
 rw[qaf T (hT 947 qeJ rfl) rfl];simp[qeJ,Fr.ofArgs,h];refine lp _ _ _ _ (fun fr J h6 h7 hg => ?_) (by simp[gc,Fr.keep,qae,qac,qab,PV.refs,qad,gcH,qag,Obj.refs,PV.ren,Obj.ren,Heap.obj,Fr.ren,gh,zzd])
 simp[h6,h7,hg,qbi]
theorem qyQ (T:Tab) (hT:HT T) (hA:HA T) (x:AExpr) (l:List AExpr) (h2:x.Args.l=l.map AExpr.dv) (hn:l.length*56≤140737488355328) (V E:DV) (g:AExpr→AValue×Int) (hg : ∀a∈l,T.val 947 [a.dv,V,E]=some (qbi (g a))) (hi : ∀a∈l,(g a).2=0→(g a).1.i) (n1:x.Op≠1) (n2:x.Op≠2) (n3:x.Op≠3) (n4:x.Op≠4) (n5:x.Op≠19) :
  T.val 947 [x.dv,V,E]=some (qbi (if qbQ (fun a=>(g a).2) l=0 then qgr x.Op (l.map fun a=>(g a).1) else (⟨0,0⟩,qbQ (fun a=>(g a).2) l))):=by
 have lp:=fun k r fr H => @qD4 T x l x.Args.t g V E (.a [I 0,I 0]) hg hn k r fr H
 have hmm : ∀(l:List AExpr),(l.map fun a=>(g a).1).map AValue.dv=l.map fun a=>(g a).1.dv:=fun l=>by rw[List.map_map];rfl
 have e967:=fun b (h:qbQ (fun a=>(g a).2) l=0)=>qBO T hT hA x.Op (l.map fun a=>(g a).1) b (by rw[zzo];exact hn) (fun v hv=>by
  obtain⟨a,ha,rfl⟩:=List.mem_map.1 hv;exact hi a ha ((qic _ _).1 h a ha))
 simp only[hmm] at e967;have g1:=qai n1
 have g2:=qai n2
 have g3:=qai n3
 have g4:=qai n4
 have g5:=qai n5
 generalize qgr x.Op (l.map fun a=>(g a).1)=p at *
 obtain⟨v,f⟩:=p;unfold qbi at e967⊢;simp only at e967;obtain⟨o,m,s,a⟩:=x;obtain⟨a,t⟩:=a;simp only at h2 lp e967 g1 g2 g3 g4 g5 n1 n2 n3 n4 n5⊢;subst h2;rw[qaf T (hT 947 qeJ rfl) rfl];simp[qeJ,Fr.ofArgs,g1,g2,g3,g4,g5];refine lp _ _ _ _ (fun h => ?_) (fun h fr J h6 h7 hg' => ?_) (fun h fr z J h6 h7 hg' => ?_) (by simp[gc,Fr.keep,qae,qac,qab,PV.refs,qad,gcH,qag,Obj.refs,PV.ren,Obj.ren,Heap.obj,Fr.ren,gh,zzd])
 ·rw[if_pos h];cases ho:l.map (fun a=>(g a).1.dv) with
  |nil =>
   have ef:=e967 true h
   rw[ho] at ef;simp[qav,qb3,pB,ef]
  |cons y o' =>
   have ef:=e967 false h
   rw[ho] at ef;have ht:o'.take o'.length=o':=List.take_of_length_le (by simp)
   simp[qav,qb3,pB,ht,qbb,pur,qbO,qxE,ef]
 ·rw[if_neg h];simp[h6,h7,hg',AValue.dv]
 ·rw[if_neg h];simp[h6,h7,hg',AValue.dv]
theorem qE4 (T:Tab) (hT:HT T) (x c a b:AExpr) (h2:x.Args.l=[c.dv,a.dv,b.dv]) (V E:DV) (p q s:AValue×Int) (hc:T.val 947 [c.dv,V,E]=some (qbi p)) (ha:p.2=0→p.1.N=1→T.val 947 [a.dv,V,E]=some (qbi q)) (hb:p.2=0→p.1.N=0→T.val 947 [b.dv,V,E]=some (qbi s)) (h01:p.2=0→p.1.N=0∨p.1.N=1) (h:x.Op=19) :
  T.val 947 [x.dv,V,E]=some (qbi (if p.2=0 then (if p.1.N=1 then q else s) else (⟨0,0⟩,p.2))):=by
 obtain⟨o,m,w,l⟩:=x;obtain⟨l,t⟩:=l;simp only at h2 h;subst h2;subst h;obtain⟨v,f⟩:=p;unfold qbi at *
 simp only at hc ha hb h01⊢;have w1:IntKind.i64.wrap 1=1:=by decide
 have w2:IntKind.i64.wrap 2=2:=by decide
 rw[qaf T (hT 947 qeJ rfl) rfl];by_cases hf:f=0
 ·subst hf;rw[if_pos rfl];rcases h01 rfl with hn|hn
  ·have e:=hb rfl hn
   rw[if_neg (by omega)]
   simp[qeJ,Fr.ofArgs,hc,hn,e,w2]
  ·have e:=ha rfl hn
   rw[if_pos hn];simp[qeJ,Fr.ofArgs,hc,hn,e,w1]
 ·have gf:=qai hf
  rw[if_neg hf];simp[qeJ,Fr.ofArgs,hc,gf,bne,↓qaA,↓qaE,mkA,qal,AValue.dv]
def TV (T:Tab) (V E:DV) (x:AExpr) (p:Int×Int):Prop :=
 T.val 400 [x.dv,V]=some (two p)∧(p.2=0→∃q:AValue×Int,T.val 947 [x.dv,V,E]=some (qbi q)∧(q.2=0→q.1.Typ=p.1∧q.1.i∧(p.1=5→q.1.N=0∨q.1.N=1)))
theorem qAE {ts:List Int} (h:(qb9 19 ts).2=true) : ∃b,ts=[5,b,b]∧(qb9 19 ts).1=b:=by
 unfold qb9 at h⊢;by_cases ha:ts.all qd8=true
 ·rw[if_pos ha] at h⊢;match ts,h with
  | [],h=>cases h
  | [a],h=>simp[qdX] at h
  | [a,b],h =>
   have:(qcU 19 a b).2=true:=by
    by_cases c:(qcU 19 a b).2=true
    ·exact c
    ·simp only at h;rw[if_neg c] at h;cases h
   exact absurd rfl (qqV this).2.2
  | [a,b,c],h =>
   have h':a=5∧b=c:=by
    by_cases c':a=5∧b=c
    ·exact c'
    ·exfalso;simp[c'] at h
   obtain⟨rfl,rfl⟩:=h';exact⟨b,rfl,by simp⟩
  | _::_::_::_::_,h=>cases h
 ·rw[if_neg ha] at h;cases h
theorem qDs {α:Type} {f:α→Int} {l:List α} {x y z:Int} (h:l.map f=[x,y,z]) : ∃a b c,l=[a,b,c]∧f a=x∧f b=y∧f c=z:=by
 cases l with
 |nil=>simp at h
 |cons a l =>
  cases l with
  |nil=>simp at h
  |cons b l =>
   cases l with
   |nil=>simp at h
   |cons c l =>
    cases l with
    |nil =>
     simp at h;exact⟨a,b,c,rfl,h.1,h.2.1,h.2.2⟩
    |cons d l=>simp at h
theorem qww (T:Tab) (hT:HT T) (hA:HA T) (vs:List AVar) (es:List AValue) (tv te:Bool) (hv:vs.length≤1000) (hE:qj7 vs es) : ∀(n:Nat) (x:AExpr),SizeOf.sizeOf x.dv<n→x.ok→∃p,TV T (.l (K1 2) (vs.map AVar.dv) tv) (.l (K1 2) (es.map AValue.dv) te) x p:=by
 intro n;induction n with
 |zero=>intro x h;exact absurd h (zzm _)
 |succ n ih =>
  intro x hn hx;by_cases n4:x.Op=4
  ·have e:=qqb T hT x vs tv hv (.inr (.inr (.inr n4)))
   rw[if_pos n4] at e;refine⟨_,e,fun h0=>⟨_,qz5 T hT x vs es tv te hv hE.1 n4 h0,fun _=>qrV x.S vs es hE h0⟩⟩
  by_cases n123:x.Op=1∨x.Op=2∨x.Op=3
  ·have e:=qqb T hT x vs tv hv (by rcases n123 with h|h|h<;>first|exact .inl h|exact .inr (.inl h)|exact .inr (.inr (.inl h)))
   rw[if_neg n4] at e;refine⟨_,e,fun h0=>⟨_,qxR T hT x _ _ n123,fun _=>⟨rfl,?_,fun h5 => ?_⟩⟩⟩
   ·have:=qB0 hx.2.1
    exact⟨this.1,by show x.N<_;omega⟩
   ·simp only at h5;omega
  have n1:x.Op≠1:=fun h=>n123 (.inl h)
  have n2:x.Op≠2:=fun h=>n123 (.inr (.inl h))
  have n3:x.Op≠3:=fun h=>n123 (.inr (.inr h))
  obtain⟨l,h2,h3,h4⟩:=qjB hx;obtain⟨g,hg⟩:=qiX (P:=fun a p=>TV T (.l (K1 2) (vs.map AVar.dv) tv) (.l (K1 2) (es.map AValue.dv) te) a p) (fun a ha=>ih a (by have:=qjR h2 ha;omega) (h3 a ha))
  have e400:=qqH T hT hA x l h2 h4 (.l (K1 2) (vs.map AVar.dv) tv) g (fun a ha=>(hg a ha).1) n1 n2 n3 n4
  refine⟨_,e400,fun h0 => ?_⟩
  unfold qon at h0⊢;by_cases hf:qbQ (fun a=>(g a).2) l=0
  ·rw[if_pos hf] at h0⊢;by_cases hr:(qb9 x.Op (l.map fun a=>(g a).1)).2=true
   ·rw[if_pos hr];have hall:=(qic _ _).1 hf
    haveI:Nonempty (AValue×Int):=⟨(⟨0,0⟩,0)⟩
    obtain⟨G,hG⟩:=qiX (P:=fun (a:AExpr) (q:AValue×Int)=>T.val 947 [a.dv,.l (K1 2) (vs.map AVar.dv) tv,.l (K1 2) (es.map AValue.dv) te]=some (qbi q)∧(q.2=0→q.1.Typ=(g a).1∧q.1.i∧((g a).1=5→q.1.N=0∨q.1.N=1))) (fun a ha=>(hg a ha).2 (hall a ha))
    by_cases n5:x.Op=19
    ·rw[n5] at hr⊢;obtain⟨b,hb,hb1⟩:=qAE hr;rw[hb1];obtain⟨c,a,d,hl3,hc5,ha5,hd5⟩:=qDs hb;rw[hl3] at h2 hG;have Gc:=hG c (by simp)
     have Ga:=hG a (by simp)
     have Gd:=hG d (by simp)
     have e:=qE4 T hT x c a d h2 _ _ (G c) (G a) (G d) Gc.1 (fun _ _=>Ga.1) (fun _ _=>Gd.1) (fun h=>(Gc.2 h).2.2 hc5) n5
     refine⟨_,e,?_⟩;by_cases f0:(G c).2=0
     ·rw[if_pos f0];by_cases c1:(G c).1.N=1
      ·rw[if_pos c1];intro h
       have:=Ga.2 h
       rw[ha5] at this;exact this
      ·rw[if_neg c1];intro h
       have:=Gd.2 h
       rw[hd5] at this;exact this
     ·rw[if_neg f0];intro h;exact absurd h f0
    ·have e:=qyQ T hT hA x l h2 h4 _ _ G (fun a ha=>(hG a ha).1) (fun a ha h=>((hG a ha).2 h).2.1) n1 n2 n3 n4 n5
     refine⟨_,e,?_⟩;by_cases f0:qbQ (fun a=>(G a).2) l=0
     ·rw[if_pos f0];intro h;have hall2:=(qic _ _).1 f0
      have ht:(l.map fun a=>(G a).1).map (·.Typ)=l.map fun a=>(g a).1:=by
       rw[List.map_map];apply List.map_congr_left
       intro a ha;exact ((hG a ha).2 (hall2 a ha)).1
      have:=qDg x.Op (l.map fun a=>(G a).1) (fun v hv=>by
       obtain⟨a,ha,rfl⟩:=List.mem_map.1 hv;exact ((hG a ha).2 (hall2 a ha)).2.1) (by rw[ht];exact hr) h
      rw[ht] at this;exact this
     ·rw[if_neg f0];intro h;exact absurd h f0
   ·rw[if_neg hr] at h0;cases h0
  ·rw[if_neg hf] at h0;exact absurd h0 hf
end Go.Sim
end
section
namespace Go.Sim
set_option maxRecDepth 10000
set_option maxHeartbeats 4000000
def qeR (f:AFee) (E:DV):DV:=.a [.s f.Name,I f.Event,I f.When.Op,I f.When.N,.s f.When.S,.l (K1 4) f.When.Args.l f.When.Args.t,I f.Amount.Op,I f.Amount.N,.s f.Amount.S,.l (K1 4) f.Amount.Args.l f.Amount.Args.t,E]
@[simp] theorem qy9 (f:AFee) (E:DV):Sim.fits (K1 11) (.d (qeR f E))=true:=rfl
@[simp] theorem qE8 (f:AFee) (E:DV) (H:Heap):Sim.purT H (.d (qeR f E))=some (.d (qeR f E),false):=rfl
@[simp] theorem qFa (f:AFee) (E:DV):(qeR f E).cells.length=11:=rfl
@[simp] theorem qE7 (f:AFee) (E:DV):((qeR f E).cells.drop 2).take 4=AExpr.cells f.When:=rfl
@[simp] theorem qE9 (f:AFee) (E:DV):((qeR f E).cells.drop 6).take 4=AExpr.cells f.Amount:=rfl
@[simp] theorem qFb (f:AFee) (E:DV):(qeR f E).cells[10]? = some E:=rfl
theorem qvt (T:Tab) (h8:H8 T) (f:AFee) (V:DV) (es:List DV) (te o:Bool) (q:AValue×Int) (e371:T.val 371 []=some (.d V,o)) (e916:T.val 916 [f.When.dv,V,.l (K1 2) es te]=some (qbi q)):T.val 886 [qeR f (.l (K1 2) es te)]=some (qbi q):=by
 unfold qbi at e916⊢;rw[qaf T (h8 886 qkI rfl) rfl];simp[qkI,Fr.ofArgs,↓qa4,↓qa3,↓qaR,↓qbf,↓qaT,qaU,↓qaS,↓qaP,↓qbg,↓qa2,↓qbu,↓qbq,qaK,writeS,touchS,qak,qax,chg,qaI,qaF,qau,qaH,PV.refs,IOp.okD,Nat.testBit,e371,e916]
theorem qvG (T:Tab) (h8:H8 T) (f:AFee) (V:DV) (es:List DV) (te o:Bool) (q:AValue×Int) (e371:T.val 371 []=some (.d V,o)) (e916:T.val 916 [f.Amount.dv,V,.l (K1 2) es te]=some (qbi q)):T.val 887 [qeR f (.l (K1 2) es te)]=some (qbi q):=by
 unfold qbi at e916⊢;rw[qaf T (h8 887 qjx rfl) rfl];simp[qjx,Fr.ofArgs,↓qa4,↓qa3,↓qaR,↓qbf,↓qaT,qaU,↓qaS,↓qaP,↓qbg,↓qa2,↓qbu,↓qbq,qaK,writeS,touchS,qak,qax,chg,qaI,qaF,qau,qaH,PV.refs,IOp.okD,Nat.testBit,e371,e916]
def qtp (p q:AValue×Int):Int×Int:=if p.2=0∧p.1.Typ=5∧p.1.N=1 then (if q.2=0 then (max 0 q.1.N,0) else (0,q.2)) else (0,p.2)
theorem qEg (T:Tab) (h8:H8 T) (D:DV) (hD:Sim.fits (K1 11) (.d D)=true) (p q:AValue×Int) (e1:T.val 886 [D]=some (qbi p)) (e2:T.val 887 [D]=some (qbi q)):T.val 802 [D]=some (two (qtp p q)):=by
 unfold qbi at e1 e2;unfold two qtp;obtain⟨⟨t,n⟩,e⟩:=p;obtain⟨⟨u,m⟩,f⟩:=q;simp only[AValue.dv] at e1 e2⊢;rw[qaf T (h8 802 qg2 rfl) rfl];by_cases h0:e=0
 ·by_cases h1:t=5
  ·by_cases h2:n=1
   ·by_cases h3:f=0
    ·rw[if_pos ⟨h0,h1,h2⟩,if_pos h3];simp[qg2,Fr.ofArgs,hD,eqA,eqL,eqK,↓qaA,↓qaE,↓qaD,putAt,mkA,qal,qas,qay,qbR,qh6,e1,e2,h0,h1,h2,h3]
    ·have g3:=qai h3
     rw[if_pos ⟨h0,h1,h2⟩,if_neg h3];simp[qg2,Fr.ofArgs,hD,eqA,eqL,eqK,↓qaA,↓qaE,↓qaD,putAt,mkA,qal,qas,qay,e1,e2,h0,h1,h2,g3,bne]
   ·have g2:=qai h2
    rw[if_neg (fun c=>h2 c.2.2)]
    simp[qg2,Fr.ofArgs,hD,eqA,eqL,eqK,↓qaA,↓qaE,↓qaD,putAt,mkA,qal,qas,qay,e1,h0,h1,g2,bne]
  ·have g1:=qai h1
   rw[if_neg (fun c=>h1 c.2.1)]
   simp[qg2,Fr.ofArgs,hD,eqA,eqL,eqK,↓qaA,↓qaE,↓qaD,putAt,mkA,qal,qas,qay,e1,h0,g1,bne]
 ·have g0:=qai h0
  rw[if_neg (fun c=>h0 c.1)]
  simp[qg2,Fr.ofArgs,hD,qal,e1,g0,bne]
end Go.Sim
end
section
namespace Go.Sim
set_option maxRecDepth 10000
set_option maxHeartbeats 4000000
structure HC (T:Tab):Prop where
 ato : ∀ds,T.val 451 ds=qkn ds
 par : ∀ds,T.val 440 ds=qjw ds
 cnt : ∀ds,T.val 423 ds=qmz ds
section
variable {R : Type} {E : Env} {ρ : Rand → PV} {H : Heap} {id : Nat} {q : PV → Heap → Option R}
theorem qsQ {neg:Bool} {kd:Nat} {x:Rand}:bo2 (qaa E ρ H id (.isnil neg kd x)) (.h q)=bo (qfE kd (ρ x)) (.h fun b=>q (.d (.b (if neg=true then !b else b))) H):=by
 simp only[qaa];cases qfE kd (ρ x)<;>rfl
end
section
variable {R : Type} {E : Env} {base : Nat}
theorem qlC {σ:Type} {live:List Nat} {body:PC} {k:KC R} {Q:R→Prop} (st:σ→St) (inv:σ→Prop) (μ:σ→Nat)
  (hround : ∀B,B=body→∀s,inv s→(∀s',inv s'→μ s'<μ s→∀fr H,gc live base ⟨fr,H⟩=st s'→Ans Q (kC E base fr H (.h (.loop live B,k))))→Ans Q (kC E base (st s).fr (st s).H (.h (body,lpK E base live B k))))
  (s:σ) (hs:inv s) {fr:Fr} {H:Heap} (h0:gc live base ⟨fr,H⟩=st s):Ans Q (kC E base fr H (.h (.loop live body,k))):=by
 have key : ∀(n:Nat) (s:σ),μ s<n→inv s→∀fr H,gc live base ⟨fr,H⟩=st s→Ans Q (kC E base fr H (.h (.loop live body,k))):=by
  intro n;induction n with
  |zero=>intro s h;exact absurd h (zzm _)
  |succ n ih =>
   intro s hn hv fr H hg;rw[qnj,hg];exact hround body rfl s hv fun s' hv' hm fr' H' hg'=>ih s' (by omega) hv' fr' H' hg'
 exact key (μ s+1) s (Nat.lt_succ_self _) hs fr H h0
end
def qkE (n:Int):Bool:=decide (97≤n)&&decide (n≤122)
def qb6 (n:Int):Bool:=decide (48≤n)&&decide (n≤57)
def qgm (n:Int):Bool:=qkE n||(qb6 n||decide (n=95))
def qh5 (n:Int):Bool:=qgm n||(decide (n=46)||decide (n=37))
theorem qtI (T:Tab) (hT:HT T) (n:Int):T.val 429 [.i .i32 n]=some (.d (.b (qkE n)),false):=by
 rw[qaf T (hT 429 qjs rfl) rfl];unfold qkE;by_cases h:97≤n
 ·simp[qjs,Fr.ofArgs,h]
 ·simp[qjs,Fr.ofArgs,h]
theorem ql3 (T:Tab) (hT:HT T) (n:Int):T.val 432 [.i .i32 n]=some (.d (.b (qb6 n)),false):=by
 rw[qaf T (hT 432 qjc rfl) rfl];unfold qb6;by_cases h:48≤n
 ·simp[qjc,Fr.ofArgs,h]
 ·simp[qjc,Fr.ofArgs,h]
theorem quF (T:Tab) (hT:HT T) (n:Int):T.val 430 [.i .i32 n]=some (.d (.b (qgm n)),false):=by
 have e1:=qtI T hT n
 have e2:=ql3 T hT n
 rw[qaf T (hT 430 qhn rfl) rfl];unfold qgm;generalize qkE n=b1 at *
 generalize qb6 n=b2 at *
 cases b1 with
 |true=>simp[qhn,Fr.ofArgs,e1]
 |false =>
  cases b2 with
  |true=>simp[qhn,Fr.ofArgs,e1,e2]
  |false =>
   by_cases h:n=95
   ·subst h;simp[qhn,Fr.ofArgs,e1,e2]
   ·have g:=qai h
    simp[qhn,Fr.ofArgs,e1,e2,h,g]
theorem qBG (T:Tab) (hT:HT T) (n:Int):T.val 434 [.i .i32 n]=some (.d (.b (qh5 n)),false):=by
 have e1:=quF T hT n
 rw[qaf T (hT 434 qhs rfl) rfl];unfold qh5;generalize qgm n=b1 at *
 cases b1 with
 |true=>simp[qhs,Fr.ofArgs,e1]
 |false =>
  by_cases h:n=46
  ·subst h;simp[qhs,Fr.ofArgs,e1]
  ·have g:=qai h
   by_cases h2:n=37
   ·subst h2;simp[qhs,Fr.ofArgs,e1]
   ·have g2:=qai h2
    simp[qhs,Fr.ofArgs,e1,h,g,h2,g2]
theorem qxL (T:Tab) (hT:HT T) (n:Int):T.val 426 [.i .i32 n]=some (.d (.b (!decide (n=10))),false):=by
 rw[qaf T (hT 426 qi5 rfl) rfl];by_cases h:n=10
 ·simp[qi5,Fr.ofArgs,h,bne]
 ·have g:=qai h
  simp[qi5,Fr.ofArgs,h,g,bne]
def cN (c:UInt8):Int:=(c.toNat:Int)
theorem qwd (T:Tab) (h:Nat) (p:Int→Bool) (hp : ∀n,T.val h [.i .i32 n]=some (.d (.b (p n)),false)) (s:List UInt8) (hs:s.length≤maxLen) (H0:Heap) (hH:Cl H0) {k:KC (PV×Heap)} {r:Option (PV×Heap)} {fr:Fr} {H:Heap}
  (he : ∀b,k (.exit 0) [(17,.d (.b b)),(5,.d (I (s.takeWhile fun c=>p (cN c)).length)),(1,.f h []),(0,.d (.s s))] H0=r)
  (h0:gc [0,1,5] H0.length ⟨fr,H⟩=⟨[(5,.d (I 0)),(1,.f h []),(0,.d (.s s))],H0⟩) :
  kC T.env H0.length fr H (.h (.loop [0,1,5] qkx,k))=r:=by
 refine qcN (fun i:Nat=>⟨[(5,.d (I i)),(1,.f h []),(0,.d (.s s))],H0⟩) (fun i=>i≤s.length∧(s.takeWhile fun c=>p (cN c)).length=i+((s.drop i).takeWhile fun c=>p (cN c)).length) (fun i=>s.length-i) ?_ 0 ⟨Nat.zero_le _,by simp⟩ h0
 rintro B-i ⟨hi,ha⟩ hx;have hm:=mxl
 by_cases hlt:i<s.length
 ·have h1:(i:Int)<s.length:=by omega
  have h3:=wr1 (i:=i) (by omega)
  have w32:IntKind.i32.wrap ((s[i].toNat:Nat):Int)=cN s[i]:=by
   rw[IntKind.wrap_i32];have:=s[i].toNat_lt;unfold cN;omega
  have e:=hp (cN s[i])
  rw[List.drop_eq_getElem_cons hlt,List.takeWhile_cons] at ha;cases hk:p (cN s[i]) with
  |true =>
   rw[hk] at e;rw[hk,if_pos rfl,zzn] at ha;have hx':=hx (i+1) ⟨by omega,by omega⟩ (by omega)
   simp[qkx,h1,hlt,h3,↓qbZ,↓qcn,↓qba,↓qbP,w32,e];exact hx' _ _ (by rw[qj5 _ hH (by simp[qac,Fr.keep,PV.refs,PV.refsL,gh])];simp[Fr.keep,gh])
  |false =>
   rw[hk] at e;rw[hk] at ha;simp only[zzg,if_false,List.length_nil,Nat.add_zero] at ha;rw[ha] at he;have he':=he false
   simp[qkx,h1,hlt,↓qbZ,↓qcn,↓qba,↓qbP,w32,e];exact he'
 ·have:i=s.length:=by omega
  subst this;rw[List.drop_of_length_le (zzt _),List.takeWhile_nil,List.length_nil,Nat.add_zero] at ha;rw[ha] at he;have he':=he false
  have h1 : ¬((s.length:Int)<s.length):=by omega
  simp[qkx];exact he'
theorem qrp {α:Type} (p:α→Bool) (s:List α):s.take (s.takeWhile p).length=s.takeWhile p:=by
 induction s with
 |nil=>rfl
 |cons x r ih =>
  rw[List.takeWhile_cons];by_cases h:p x=true
  ·rw[if_pos h,zzn,List.take_succ_cons,ih]
  ·rw[if_neg h];rfl
theorem qlK {α:Type} (p:α→Bool) (s:List α):(s.takeWhile p).length≤s.length:=by
 have:=congrArg List.length (qrp p s)
 rw[List.length_take] at this;omega
theorem qk5 (T:Tab) (hT:HT T) (h:Nat) (p:Int→Bool) (hp : ∀n,T.val h [.i .i32 n]=some (.d (.b (p n)),false)) (s:List UInt8) (hs:s.length≤maxLen) (H0:Heap) (hH:Cl H0) :
  T.ref 425 [.d (.s s),.f h []] H0=some (.d (.s (s.takeWhile fun c=>p (cN c))),H0):=by
 have lp:=fun k r fr H => @qwd T h p hp s hs H0 hH k r fr H
 have hl:=qlK (fun c=>p (cN c)) s
 have ht:=qrp (fun c=>p (cN c)) s
 generalize s.takeWhile (fun c=>p (cN c))=w at *
 have hl':(w.length:Int)≤s.length:=by omega
 rw[qf8 T (hT 425 qks rfl) rfl];simp[qks,Fr.ofArgs];refine lp _ _ _ _ (fun b => ?_) (by rw[qj5 _ hH (by simp[qac,Fr.keep,PV.refs,PV.refsL,gh])];simp[Fr.keep,gh])
 simp[hl',ht,qfz,qnd hH]
def qpk (s:List UInt8) (r:PV×Bool):Prop:=∃n:Nat,r=(.d (I n),false)∧n≤s.length
theorem qxV (T:Tab) (hT:HT T) (s:List UInt8) (hs:s.length≤2048):Ans (qpk s) (T.val 422 [.s s]):=by
 have hm:=mxl
 rw[qaf T (hT 422 qjE rfl) rfl];simp[qjE,Fr.ofArgs];refine qlC (fun i:Nat=>⟨[(3,.d (I i)),(0,.d (.s s))],[]⟩) (fun i=>i≤s.length) (fun i=>s.length-i) ?_ 0 (Nat.zero_le _) (by simp[gc,Fr.keep,qae,qac,qab,PV.refs,gcH,PV.ren,Obj.ren,Heap.obj,Fr.ren,gh])
 rintro B-i hi hx;by_cases hlt:i<s.length
 ·have h1:(i:Int)<s.length:=by omega
  have h1':(i:Int)≤s.length:=by omega
  have hle:i≤s.length:=by omega
  have h3:=wr1 (i:=i) (by omega)
  have e:=qk5 T hT 426 (fun n => !decide (n=10)) (fun n=>qxL T hT n) (s.drop i) (by rw[List.length_drop,hm];omega) [] qqE
  obtain⟨w,hw⟩ : ∃w,(s.drop i).takeWhile (fun c => !decide (cN c=10))=w:=⟨_,rfl⟩
  have hwl:=qlK (fun c => !decide (cN c=10)) (s.drop i)
  rw[hw,List.length_drop] at hwl;simp only[hw] at e;have h5:IntKind.i64.wrap ((i:Int)+(w.length:Int))=((i+w.length:Nat):Int):=by rw[wrI (by omega) (by omega)];omega
  by_cases b1:((s[i].toNat:Nat):Int)=32
  ·have hx':=hx (i+1) (by omega) (by omega)
   simp[qh4,h1,hlt,h3,↓qbZ,↓qcn,b1];exact hx' _ _ (by simp[gc,Fr.keep,qae,qac,qab,PV.refs,gcH,PV.ren,Obj.ren,Heap.obj,Fr.ren,gh])
  have g1:=qai b1
  by_cases b2:((s[i].toNat:Nat):Int)=9
  ·have hx':=hx (i+1) (by omega) (by omega)
   simp[qh4,h1,hlt,h3,↓qbZ,↓qcn,b2];exact hx' _ _ (by simp[gc,Fr.keep,qae,qac,qab,PV.refs,gcH,PV.ren,Obj.ren,Heap.obj,Fr.ren,gh])
  have g2:=qai b2
  by_cases b3:((s[i].toNat:Nat):Int)=10
  ·have hx':=hx (i+1) (by omega) (by omega)
   simp[qh4,h1,hlt,h3,↓qbZ,↓qcn,b3];exact hx' _ _ (by simp[gc,Fr.keep,qae,qac,qab,PV.refs,gcH,PV.ren,Obj.ren,Heap.obj,Fr.ren,gh])
  have g3:=qai b3
  by_cases b4:((s[i].toNat:Nat):Int)=35
  ·have hpos:0<w.length:=by
    rw[List.drop_eq_getElem_cons hlt,List.takeWhile_cons,if_pos (by unfold cN;rw[b4];decide)] at hw
    rw[←hw];simp
   have hx':=hx (i+w.length) (by omega) (by omega)
   simp[qh4,h1,h1',hlt,↓qbZ,↓qcn,b4,e,h5];exact hx' _ _ (by simp[gc,Fr.keep,qae,qac,qab,PV.refs,gcH,PV.ren,Obj.ren,Heap.obj,Fr.ren,gh])
  have g4:=qai b4
  simp[qh4,h1,hlt,↓qbZ,↓qcn,g1,g2,g3,g4];exact qb8 (show qpk s _ from⟨i,rfl,hi⟩)
 ·have h1 : ¬((i:Int)<s.length):=by omega
  simp[qh4,h1];exact qb8 (show qpk s _ from⟨i,rfl,hi⟩)
theorem qyd (T:Tab) (hT:HT T) (s:List UInt8) (hs:s.length≤2048) : ∃n:Nat,n≤s.length∧T.val 422 [.s s]=some (.d (I n),false):=by
 obtain⟨r,h1,n,h2,h3⟩:=qxV T hT s hs;exact⟨n,h3,by rw[h1,h2]⟩
def qh7 (s:List UInt8):Bool:=match s with
 | []=>false
 |c::r=>decide ((c::r).takeWhile (fun c=>qb6 (cN c))=c::r)&&(decide (r=[]) || !decide (cN c=48))
theorem quW (T:Tab) (hT:HT T) (s:List UInt8) (hs:s.length≤2048):T.val 439 [.s s]=some (.d (.b (qh7 s)),false):=by
 have hm:=mxl
 have e:=qk5 T hT 432 qb6 (fun n=>ql3 T hT n) s (by rw[hm];omega) [] qqE
 rw[qaf T (hT 439 qgQ rfl) rfl];cases s with
 |nil=>simp[qgQ,Fr.ofArgs,qh7]
 |cons c r =>
  have hI:qh7 (c::r)=(decide ((c::r).takeWhile (fun c=>qb6 (cN c))=c::r)&&(decide (r=[]) || !decide (cN c=48))):=rfl
  rw[hI];generalize (c::r).takeWhile (fun c=>qb6 (cN c))=w at *
  by_cases h1:w=c::r
  ·subst h1;by_cases h2:r=[]
   ·subst h2;simp[qgQ,Fr.ofArgs,e]
   ·have l0:r.length≠0:=fun h=>h2 (List.length_eq_zero_iff.1 h)
    have l1 : ¬((r.length:Int)+1=1):=by omega
    have g1:=qai l1
    unfold cN;by_cases h3:((c.toNat:Nat):Int)=48
    ·simp[qgQ,Fr.ofArgs,e,h2,g1,↓qbZ,↓qcn,h3,bne]
    ·have g3:=qai h3
     simp[qgQ,Fr.ofArgs,e,h2,g1,↓qbZ,↓qcn,h3,g3,bne]
  ·have g1:=qhd h1
   simp[qgQ,Fr.ofArgs,e,h1,g1]
theorem qoD {α:Type} {p:α→Bool} {x:α} : ∀{l:List α},x∈l.takeWhile p→p x=true
 | [],h=>by cases h
 |y::l,h=>by
  rw[List.takeWhile_cons] at h;by_cases c:p y=true
  ·rw[if_pos c] at h;rcases List.mem_cons.1 h with h|h
   ·rw[h];exact c
   ·exact qoD h
  ·rw[if_neg c] at h;cases h
theorem qC0 {s:List UInt8} (h:qh7 s=true):s≠[]∧∀c∈s,qb6 (cN c)=true:=by
 cases s with
 |nil=>cases h
 |cons c r =>
  simp only[qh7,zzf,zzq] at h;refine⟨by simp,fun d hd => ?_⟩
  rw[←h.1] at hd;exact qoD (p:=fun c=>qb6 (cN c)) hd
theorem qrc {c:UInt8} (h:qb6 (cN c)=true):48≤c.toNat∧c.toNat≤57:=by
 simp only[qb6,zzf,zzq] at h;unfold cN at h;omega
theorem qqO : ∀(l:List UInt8) (a:Nat),(∀c∈l,qb6 (cN c)=true)→∃n,Lib.decFrom a l=some n
 | [],a,_=>⟨a,rfl⟩
 |c::r,a,h=>by
  have hc:=h c (by simp)
  have hc:=qrc hc
  have e:Lib.digitVal c=some (c.toNat-48):=by unfold Lib.digitVal;rw[if_pos (by omega)]
  obtain⟨n,hn⟩:=qqO r (a*10+(c.toNat-48)) (fun d hd=>h d (by simp[hd]))
  exact⟨n,by rw[Lib.decFrom,e];exact hn⟩
theorem qy3 {l:List UInt8} (h0:l≠[]) (h : ∀c∈l,qb6 (cN c)=true) : ∃v,Lib.atoi l=some v:=by
 cases l with
 |nil=>exact absurd rfl h0
 |cons c r =>
  have hc:=h c (by simp)
  have hc:=qrc hc
  obtain⟨n,hn⟩:=qqO (c::r) 0 h;refine⟨(n:Int),?_⟩;have b1:(c==45)=false:=by
   simp only[beq_eq_false_iff_ne,ne_eq];intro e;rw[e] at hc;revert hc;decide
  have b2:(c==43)=false:=by
   simp only[beq_eq_false_iff_ne,ne_eq];intro e;rw[e] at hc;revert hc;decide
  rw[Lib.atoi,b1,b2];simp only[zzg,if_false,Lib.decNat,List.isEmpty_cons,hn,Option.map_some]
end Go.Sim
end
section
namespace Go.Sim
set_option maxRecDepth 10000
set_option maxHeartbeats 4000000
theorem qtJ (c:Nat) : ∀(l:List UInt8) (k i:Nat),ixB c l k=some i→k≤i∧i<k+l.length
 | [],k,i,h=>by cases h
 |x::r,k,i,h=>by
  rw[ixB] at h;by_cases e:Nat.beq x.toNat c=true
  ·rw[if_pos e] at h;injection h with h
   subst h;simp
  ·rw[if_neg e] at h
   have:=qtJ c r (k+1) i h
   simp only[zzn];omega
def ixI (c:Nat) (s:List UInt8):Int:=match ixB c s 0 with|some i=>(i:Int)|none=>-1
theorem qCb (c:Nat) (s:List UInt8):ixI c s = -1∨∃i:Nat,ixI c s=(i:Int)∧i<s.length:=by
 unfold ixI;cases h:ixB c s 0 with
 |none=>exact .inl rfl
 |some i=>exact .inr ⟨i,rfl,by have:=qtJ c s 0 i h;omega⟩
theorem qD1 (T:Tab) (hT:HT T) (s:List UInt8):T.val 443 [.s s,.i .u8 46]=some (.d (I (ixI 46 s)),false):=by
 have e:qfT 2 [.d (.s s),.d (.i .u8 46)]=some (.d (I (ixI 46 s))):=rfl
 rw[qaf T (hT 443 qkl rfl) rfl];simp[qkl,Fr.ofArgs,↓qk1,e]
theorem qDU (T:Tab) (hT:HT T) (s:List UInt8):T.val 436 [.s s,.s [46]]=some (.d (I (ixI 46 s)),false):=by
 have e:=qD1 T hT s
 by_cases hs:[46]=s
 ·subst hs;rw[show ixI 46 [46]=0 from rfl,qaf T (hT 436 qhS rfl) rfl]
  simp[qhS,Fr.ofArgs]
 ·have g:=qhd hs
  rw[qaf T (hT 436 qhS rfl) rfl];simp[qhS,Fr.ofArgs,g,↓qbZ,↓qcn,e]
theorem qCI (T:Tab) (hT:HT T) (s:List UInt8) (hs:s.length≤2048) : ∃a b f,T.val 461 [.s s,.s [46]]=some (.t [.d (.s a),.d (.s b),.d (.b f)],false)∧(f=false→b=[])∧b.length≤2048∧a.length≤2048:=by
 have e:=qDU T hT s
 rcases qCb 46 s with h|⟨i,h,hi⟩
 ·refine⟨s,[],false,?_,fun _=>rfl,by simp,hs⟩
  rw[h] at e;rw[qaf T (hT 461 qhQ rfl) rfl];simp[qhQ,Fr.ofArgs,e]
 ·refine⟨s.take i,s.drop (i+1),true,?_,(fun h=>by cases h),by rw[List.length_drop];omega,by rw[List.length_take];omega⟩
  rw[h] at e;have w:IntKind.i64.wrap ((i:Int)+1)=((i+1:Nat):Int):=by rw[wrI (by omega) (by omega)];omega
  have g1:(i:Int)≤s.length:=by omega
  have g2:i≤s.length:=by omega
  have g3:((i+1:Nat):Int)≤s.length:=by omega
  have g4:i+1≤s.length:=by omega
  rw[qaf T (hT 461 qhQ rfl) rfl];obtain⟨j,hj⟩ : ∃j,i+1=j:=⟨_,rfl⟩;rw[hj] at w g3 g4⊢;have g5:(0:Int)≤(j:Int):=by omega
  simp[qhQ,Fr.ofArgs,e,↓qa4,↓qa3,↓qaR,↓qaT,qaU,↓qaS,↓qaZ,↓qbr,↓qbC,qaK,writeS,touchS,qak,qax,chg,qaF,qau,qaH,PV.refs,IOp.okD,Nat.testBit,w,g1,g3,g5,↓qcO,↓qc0]
theorem qzy (T:Tab) (hT:HT T) (s:List UInt8) (hs:s.length≤2048) : ∃a b f,T.val 450 [.s s,.s [46]]=some (.t [.d (.s a),.d (.s b),.d (.b f)],false)∧(f=false→b=[])∧b.length≤2048∧a.length≤2048:=by
 obtain⟨a,b,f,e,h⟩:=qCI T hT s hs;refine⟨a,b,f,?_,h⟩;rw[qaf T (hT 450 qkd rfl) rfl];simp[qkd,Fr.ofArgs,e]
theorem qEh (T:Tab) (hT:HT T) (s:List UInt8) (hs:s.length≤2048) : ∃b:Bool,T.val 468 [.s s,.s [37]]=some (.d (.b b),false)∧(b=true→1≤s.length):=by
 rw[qaf T (hT 468 qjh rfl) rfl];by_cases h:1≤s.length
 ·have w:IntKind.i64.wrap ((s.length:Int)-1)=((s.length-1:Nat):Int):=by rw[wrI (by omega) (by omega)];omega
  obtain⟨j,hj⟩ : ∃j,s.length-1=j:=⟨_,rfl⟩;rw[hj] at w;have g1:(j:Int)≤s.length:=by omega
  have g2:j≤s.length:=by omega
  have g3:(1:Int)≤s.length:=by omega
  refine⟨(s.drop j==[37]),?_,fun _=>h⟩
  simp[qjh,Fr.ofArgs,g3,w,g1]
 ·have g3 : ¬((1:Int)≤s.length):=by omega
  refine⟨false,?_,(fun h=>by cases h)⟩
  simp[qjh,Fr.ofArgs,g3]
theorem qEP (T:Tab) (hT:HT T) (s:List UInt8) (hs:s.length≤2048) : ∃a b,T.val 460 [.s s,.s [37]]=some (.t [.d (.s a),.d (.b b)],false)∧a.length≤2048:=by
 obtain⟨b,e,hb⟩:=qEh T hT s hs;rw[qaf T (hT 460 qjl rfl) rfl];cases b with
 |false =>
  refine⟨s,false,?_,hs⟩;simp[qjl,Fr.ofArgs,e]
 |true =>
  have h:=hb rfl
  have w:IntKind.i64.wrap ((s.length:Int)-1)=((s.length-1:Nat):Int):=by rw[wrI (by omega) (by omega)];omega
  obtain⟨j,hj⟩ : ∃j,s.length-1=j:=⟨_,rfl⟩;rw[hj] at w;have g1:(j:Int)≤s.length:=by omega
  have g2:j≤s.length:=by omega
  refine⟨s.take j,true,?_,by rw[List.length_take];omega⟩
  simp[qjl,Fr.ofArgs,e,w,g1]
theorem qCN (T:Tab) (hT:HT T) (s:List UInt8) (hs:s.length≤2048) : ∃a b,T.val 449 [.s s,.s [37]]=some (.t [.d (.s a),.d (.b b)],false)∧a.length≤2048:=by
 obtain⟨a,b,e,h⟩:=qEP T hT s hs;refine⟨a,b,?_,h⟩;rw[qaf T (hT 449 qjJ rfl) rfl];simp[qjJ,Fr.ofArgs,e]
def qfG (p:List UInt8):List UInt8:=p++List.replicate (4-p.length) 48
theorem qrL (T:Tab) (w p:List UInt8) (hp:p.length≤4) {k:KC (PV×Bool)} {r:Option (PV×Bool)} {fr:Fr} {H:Heap}
  (he:k (.exit 0) [(60,.d (.b false)),(7,.d (.s (qfG p))),(6,.d (.s w))] []=r)
  (h0:gc [6,7] 0 ⟨fr,H⟩=⟨[(7,.d (.s p)),(6,.d (.s w))],[]⟩) :
  kC T.env 0 fr H (.h (.loop [6,7] qmF,k))=r:=by
 refine qcN (fun q:List UInt8=>⟨[(7,.d (.s q)),(6,.d (.s w))],[]⟩) (fun q=>q.length≤4∧qfG q=qfG p) (fun q=>4-q.length) ?_ p ⟨hp,rfl⟩ h0
 rintro B-q ⟨hq,ha⟩ hx;by_cases hlt:q.length<4
 ·have h1:(q.length:Int)<4:=by omega
  have hx':=hx (q++[48]) ⟨by simp;omega,by
   rw[←ha];unfold qfG;rw[List.append_assoc,zzp,zzn,List.length_nil,show 4-q.length=4-(q.length+(0+1))+1 by omega,List.replicate_succ]
   rfl⟩ (by simp;omega)
  have h2:q.length+1<4611686018427387904:=by omega
  simp[qmF,h1,h2];exact hx' _ _ (by simp[gc,Fr.keep,qae,qac,qab,PV.refs,gcH,PV.ren,Obj.ren,Heap.obj,Fr.ren,gh])
 ·have h1 : ¬((q.length:Int)<4):=by omega
  have e:qfG p=q:=by
   rw[←ha];unfold qfG
   rw[show 4-q.length=0 by omega];simp
  rw[e] at he;simp[qmF,h1];exact he
theorem qy5 {p:List UInt8} (h : ∀c∈p,qb6 (cN c)=true) : ∀c∈qfG p,qb6 (cN c)=true:=by
 intro c hc;rcases List.mem_append.1 hc with hc|hc
 ·exact h c hc
 ·rw[(List.mem_replicate.1 hc).2];decide
theorem qoy {p:List UInt8} (h:p.length≤4):(qfG p).length=4:=by
 unfold qfG;rw[zzp,List.length_replicate];omega
theorem qx5 (T:Tab) (hT:HT T) (hC:HC T) (s:List UInt8) (hs:s.length≤2048) : ∃p:Int×Int,T.val 441 [.s s]=some (two p):=by
 obtain⟨t,ok,e449,ht⟩:=qCN T hT s hs;obtain⟨a,b,f,e450,hf,hb,ha⟩:=qzy T hT t ht;have e439:=quW T hT a ha
 have hm:=mxl
 have e425:=qk5 T hT 432 qb6 (fun n=>ql3 T hT n) b (by rw[hm];omega) [] qqE
 rw[qaf T (hT 441 qcM rfl) rfl];unfold two;cases ok with
 |false =>
  refine⟨(0,2),?_⟩;simp[qcM,Fr.ofArgs,e449,e450]
 |true =>
  cases hi:qh7 a with
  |false =>
   rw[hi] at e439;refine⟨(0,2),?_⟩;simp[qcM,Fr.ofArgs,e449,e450,e439]
  |true =>
   rw[hi] at e439;obtain⟨a0,ad⟩:=qC0 hi;have tail : ∀(p:List UInt8),p.length≤4→(∀c∈p,qb6 (cN c)=true)→¬(3<a.length)→∃v:Int,T.val 451 [.s (a++qfG p)]=some (.t [.d (I v),.d .ni],false):=by
    intro p hp hd h3;obtain⟨v,hv⟩:=qy3 (l:=a++qfG p) (by simp[a0]) (fun c hc=>by
     rcases List.mem_append.1 hc with hc|hc
     ·exact ad c hc
     ·exact qy5 hd c hc)
    refine⟨v,?_⟩;rw[hC.ato];simp only[qkn];rw[if_pos (by rw[zzp,qoy hp];omega),hv]
   cases f with
   |false =>
    have hbn:=hf rfl
    subst hbn;by_cases h3:3<a.length
    ·have g3:(3:Int)<a.length:=by omega
     refine⟨(0,1),?_⟩;simp[qcM,Fr.ofArgs,e449,e450,e439,g3]
    ·have g3 : ¬((3:Int)<a.length):=by omega
     obtain⟨v,ev⟩:=tail [] (by simp) (by simp) h3
     have lp:=fun k r fr H => @qrL T a [] (by simp) k r fr H
     have pl:=qoy (p:=[]) (by simp)
     generalize qfG []=q at *
     have hlen:a.length+4<4611686018427387904:=by omega
     by_cases hv:1000000<v
     ·refine⟨(0,1),?_⟩;simp[qcM,Fr.ofArgs,e449,e450,e439,g3];refine lp _ _ _ _ ?_ (by simp[gc,Fr.keep,qae,qac,qab,PV.refs,gcH,PV.ren,Obj.ren,Heap.obj,Fr.ren,gh])
      simp[pl,hlen,ev,hv]
     ·refine⟨(v,0),?_⟩;simp[qcM,Fr.ofArgs,e449,e450,e439,g3];refine lp _ _ _ _ ?_ (by simp[gc,Fr.keep,qae,qac,qab,PV.refs,gcH,PV.ren,Obj.ren,Heap.obj,Fr.ren,gh])
      simp[pl,hlen,ev,hv]
   |true =>
    by_cases b0:b=[]
    ·refine⟨(0,2),?_⟩;simp[qcM,Fr.ofArgs,e449,e450,e439,b0]
    have gb0:=qhd b0
    by_cases b4:4<b.length
    ·have g4:(4:Int)<b.length:=by omega
     refine⟨(0,2),?_⟩;simp[qcM,Fr.ofArgs,e449,e450,e439,gb0,g4]
    have g4 : ¬((4:Int)<b.length):=by omega
    by_cases bd:b.takeWhile (fun c=>qb6 (cN c))=b
    ·rw[bd] at e425;have hbd : ∀c∈b,qb6 (cN c)=true:=fun c hc=>by
      rw[←bd] at hc;exact qoD (p:=fun c=>qb6 (cN c)) hc
     have l0:b.length≠0:=fun h=>b0 (List.length_eq_zero_iff.1 h)
     have w:IntKind.i64.wrap ((b.length:Int)-1)=((b.length-1:Nat):Int):=by rw[wrI (by omega) (by omega)];omega
     obtain⟨j,hj⟩ : ∃j,b.length-1=j:=⟨_,rfl⟩;rw[hj] at w;have hjl:j<b.length:=by omega
     obtain⟨c,hc⟩ : ∃c,b[j]? = some c:=⟨_,zze hjl⟩;by_cases bc:((c.toNat:Nat):Int)=48
     ·refine⟨(0,2),?_⟩;simp[qcM,Fr.ofArgs,e449,e450,e439,gb0,g4,e425,w,hc,↓qbZ,↓qcn,bc]
     ·have gbc:=qai bc
      by_cases h3:3<a.length
      ·have g3:(3:Int)<a.length:=by omega
       refine⟨(0,1),?_⟩;simp[qcM,Fr.ofArgs,e449,e450,e439,gb0,g4,e425,w,hc,↓qbZ,↓qcn,gbc,g3]
      ·have g3 : ¬((3:Int)<a.length):=by omega
       obtain⟨v,ev⟩:=tail b (by omega) hbd h3
       have lp:=fun k r fr H => @qrL T a b (by omega) k r fr H
       have pl:=qoy (p:=b) (by omega)
       generalize qfG b=q at *
       have hlen:a.length+4<4611686018427387904:=by omega
       by_cases hv:1000000<v
       ·refine⟨(0,1),?_⟩;simp[qcM,Fr.ofArgs,e449,e450,e439,gb0,g4,e425,w,hc,↓qbZ,↓qcn,gbc,g3];refine lp _ _ _ _ ?_ (by simp[gc,Fr.keep,qae,qac,qab,PV.refs,gcH,PV.ren,Obj.ren,Heap.obj,Fr.ren,gh])
        simp[pl,hlen,ev,hv]
       ·refine⟨(v,0),?_⟩;simp[qcM,Fr.ofArgs,e449,e450,e439,gb0,g4,e425,w,hc,↓qbZ,↓qcn,gbc,g3];refine lp _ _ _ _ ?_ (by simp[gc,Fr.keep,qae,qac,qab,PV.refs,gcH,PV.ren,Obj.ren,Heap.obj,Fr.ren,gh])
        simp[pl,hlen,ev,hv]
    ·have gbd:=qhd bd
     generalize b.takeWhile (fun c=>qb6 (cN c))=w at *
     refine⟨(0,2),?_⟩;simp[qcM,Fr.ofArgs,e449,e450,e439,gb0,g4,e425,gbd]
structure ATok where
 (Kind Line:Int)
 Text:List UInt8
def ATok.cells (x:ATok):List DV:=[I x.Kind,I x.Line,.s x.Text]
def ATok.dv (x:ATok):DV:=.a [I x.Kind,I x.Line,.s x.Text]
@[simp] theorem ATok.fits (x:ATok):Sim.fits (K1 3) (.d (ATok.dv x))=true:=rfl
@[simp] theorem ATok.purT (x:ATok) (H:Heap):Sim.purT H (.d (ATok.dv x))=some (.d (ATok.dv x),false):=rfl
@[simp] theorem ATok.clen (x:ATok):(ATok.dv x).cells.length=3:=rfl
@[simp] theorem ATok.aof (x:ATok):DV.a (ATok.cells x)=ATok.dv x:=rfl
@[simp] theorem ATok.ccl (x:ATok):(ATok.cells x).length=3:=rfl
@[simp] theorem ATok.c0 (x:ATok):(ATok.dv x).cells[0]? = some (I x.Kind):=rfl
@[simp] theorem ATok.c1 (x:ATok):(ATok.dv x).cells[1]? = some (I x.Line):=rfl
@[simp] theorem ATok.c2 (x:ATok):(ATok.dv x).cells[2]? = some (.s x.Text):=rfl
def qha (k:Int) (s:List UInt8) (e:Int):PV×Bool:=(.t [.d (.a [I k,I 0,.s s]),.d (I e)],false)
theorem qyC (T:Tab) (hC:HC T) (s:List UInt8) (hs:s.length≤2048):(∃v:Int,T.val 440 [.s s,I 10,I 64]=some (.t [.d (I v),.d .ni],false))∨(∃v:Int,T.val 440 [.s s,I 10,I 64]=some (.t [.d (I v),.d (.tok 0)],false)):=by
 rw[hC.par];simp only[qjw];rw[if_pos (by refine⟨?_,?_,?_⟩<;>first|trivial|omega)]
 cases Lib.parseIntB 64 s with
 |ok v=>exact .inl ⟨v,rfl⟩
 |range=>exact .inr ⟨_,rfl⟩
 | _ => exact .inr ⟨_,rfl⟩
theorem qzi (T:Tab) (hT:HT T) (hC:HC T) (s:List UInt8) (hs:s.length≤2048) : ∃k t e,T.val 433 [.s s]=some (qha k t e)∧(e=0→t=s):=by
 have e439:=quW T hT s hs
 obtain⟨p,e441⟩:=qx5 T hT hC s hs;unfold two at e441;cases hi:qh7 s with
 |true =>
  rw[hi] at e439;rcases qyC T hC s hs with ⟨v,e⟩|⟨v,e⟩
  ·refine⟨2,s,0,?_,fun _=>rfl⟩
   rw[qaf T (hT 433 qfx rfl) rfl];simp[qfx,Fr.ofArgs,e439,e,↓qsQ,qfE,↓qaA,↓qaE,↓qaD,putAt,mkA,qal,qas,qay,qcy,qha]
  ·refine⟨0,[],6,?_,(fun h=>by cases h)⟩
   rw[qaf T (hT 433 qfx rfl) rfl];simp[qfx,Fr.ofArgs,e439,e,↓qsQ,qfE,↓qaA,↓qaE,mkA,qal,qha]
 |false =>
  rw[hi] at e439;by_cases h0:p.2=0
  ·refine⟨3,s,0,?_,fun _=>rfl⟩
   rw[qaf T (hT 433 qfx rfl) rfl];simp[qfx,Fr.ofArgs,e439,e441,h0,↓qaA,↓qaE,↓qaD,putAt,mkA,qal,qas,qay,qcy,qha]
  ·have g0:=qai h0
   by_cases h1:p.2=1
   ·refine⟨0,[],6,?_,(fun h=>by cases h)⟩
    rw[qaf T (hT 433 qfx rfl) rfl];simp[qfx,Fr.ofArgs,e439,e441,h1,↓qaA,↓qaE,mkA,qal,qha]
   ·have g1:=qai h1
    refine⟨0,[],2,?_,(fun h=>by cases h)⟩
    rw[qaf T (hT 433 qfx rfl) rfl];simp[qfx,Fr.ofArgs,e439,e441,g0,g1,↓qaA,↓qaE,mkA,qal,qha]
end Go.Sim
end
section
namespace Go.Sim
set_option maxRecDepth 10000
set_option maxHeartbeats 4000000
structure HWd (T:Tab):Prop where
 words : ∃(ws:List (List UInt8)) (t o:Bool),T.val 438 []=some (.d (.l K0 (ws.map DV.s) t),o)∧ws.length≤1000
 marks : ∃(ms:List (List UInt8)) (t o:Bool),T.val 435 []=some (.d (.l K0 (ms.map DV.s) t),o)∧ms.length≤1000∧∀m∈ms,m≠[]
theorem qx8 (T:Tab) (hT:HT T) (ws:List (List UInt8)) (t:Bool) (s:List UInt8) (hn:ws.length≤1000) : ∃n:Int,T.val 446 [.l K0 (ws.map DV.s) t,.s s]=some (.d (I n),false):=by
 apply qsu
 rw[qaf T (hT 446 qko rfl) rfl];simp[qko,Fr.ofArgs];refine qlC (fun i:Nat=>⟨[(8,.d (I i)),(7,.d (I ws.length)),(1,.d (.s s)),(0,.d (.l K0 (ws.map DV.s) t))],[]⟩) (fun i=>i≤ws.length) (fun i=>ws.length-i) ?_ 0 (Nat.zero_le _) (by simp[gc,Fr.keep,qae,qac,qab,PV.refs,gcH,PV.ren,Obj.ren,Heap.obj,Fr.ren,gh])
 rintro B-i hi hx;by_cases hlt:i<ws.length
 ·have h1:(i:Int)<ws.length:=by omega
  have h3:=wr1 (i:=i) (by omega)
  by_cases hs:s=ws[i]
  ·simp[qld,h1,hlt,←hs];exact qb8 (show IsI _ from⟨_,rfl⟩)
  ·have g:=qhd hs
   have hx':=hx (i+1) (by omega) (by omega)
   simp[qld,h1,hlt,h3,g];exact hx' _ _ (by simp[gc,Fr.keep,qae,qac,qab,PV.refs,gcH,PV.ren,Obj.ren,Heap.obj,Fr.ren,gh])
 ·have:i=ws.length:=by omega
  subst this;have h1 : ¬((ws.length:Int)<ws.length):=by omega
  simp[qld];exact qb8 (show IsI _ from⟨_,rfl⟩)
theorem qEY (T:Tab) (hT:HT T) (hW:HWd T) (s:List UInt8) : ∃b:Bool,T.val 431 [.s s]=some (.d (.b b),false):=by
 obtain⟨ws,t,o,e438,hn⟩:=hW.words;obtain⟨n,e446⟩:=qx8 T hT ws t s hn;have e437:T.val 437 [.l K0 (ws.map DV.s) t,.s s]=some (.d (.b (decide (0≤n))),false):=by
  rw[qaf T (hT 437 qkv rfl) rfl];simp[qkv,Fr.ofArgs,e446]
 refine⟨decide (0≤n),?_⟩;generalize ws.map DV.s=w at *
 rw[qaf T (hT 431 qkP rfl) rfl];simp[qkP,Fr.ofArgs,e438,e437]
theorem qEZ (T:Tab) (hT:HT T) (s m:List UInt8) : ∃b:Bool,T.val 291 [.s s,.s m]=some (.d (.b b),false)∧(b=true→m.length≤s.length):=by
 rw[qaf T (hT 291 qiE rfl) rfl];by_cases h:m.length≤s.length
 ·have g:(m.length:Int)≤s.length:=by omega
  refine⟨(s.take m.length==m),?_,fun _=>h⟩
  simp[qiE,Fr.ofArgs,g]
 ·have g : ¬((m.length:Int)≤s.length):=by omega
  refine⟨false,?_,(fun h=>by cases h)⟩
  simp[qiE,Fr.ofArgs,g]
theorem qzz (T:Tab) (hT:HT T) (s m:List UInt8) : ∃b:Bool,T.val 207 [.s s,.s m]=some (.d (.b b),false)∧(b=true→m.length≤s.length):=by
 obtain⟨b,e,h⟩:=qEZ T hT s m;refine⟨b,?_,h⟩;rw[qaf T (hT 207 qkm rfl) rfl];simp[qkm,Fr.ofArgs,e]
def qii (s:List UInt8) (r:PV×Bool):Prop:=∃k t e,r=qha k t e∧(e=0→t≠[]∧t.length≤s.length)
theorem qzu (k:K) (v:DV):Cl [some (.box k (.d v))]:=fun r h=>by simp[qab,qag,Obj.refs,PV.refs] at h
theorem qCo (T:Tab) (hT:HT T) (hC:HC T) (hW:HWd T) (s:List UInt8) (h0:s≠[]) (hs:s.length≤2048):Ans (qii s) (T.val 424 [.s s]):=by
 have hm:=mxl
 obtain⟨c,r,rfl⟩ : ∃c r,s=c::r:=by
  cases s with
  |nil=>exact absurd rfl h0
  |cons c r=>exact⟨c,r,rfl⟩
 have w32:IntKind.i32.wrap ((c.toNat:Nat):Int)=cN c:=by
  rw[IntKind.wrap_i32];have:=c.toNat_lt;unfold cN;omega
 have e429:=qtI T hT (cN c)
 have e432:=ql3 T hT (cN c)
 have z:Cl [some (.box (K1 3) (.d (.a [I 0,I 0,.s []])))]:=qzu _ _
 cases hl:qkE (cN c) with
 |true =>
  rw[hl] at e429;have e425:=qk5 T hT 430 qgm (fun n=>quF T hT n) (c::r) (by rw[hm];omega) _ z
  have hne:(c::r).takeWhile (fun c=>qgm (cN c))≠[]:=by
   rw[List.takeWhile_cons,if_pos (by unfold qgm;rw[hl];rfl)];simp
  have hle:=qlK (fun c=>qgm (cN c)) (c::r)
  generalize (c::r).takeWhile (fun c=>qgm (cN c))=w at *
  obtain⟨b,e431⟩:=qEY T hT hW w;cases b with
  |true =>
   rw[qaf T (hT 424 qfH rfl) rfl];simp[qfH,Fr.ofArgs,↓qbZ,↓qcn,↓qba,↓qbP,w32,e429,e425,e431,↓qaA,↓qaE,↓qaD,putAt,mkA,qal,qas,qay,qcy];exact qb8 (show qii _ _ from⟨5,w,0,rfl,fun _=>⟨hne,hle⟩⟩)
  |false =>
   by_cases hw:16<w.length
   ·have g:(16:Int)<w.length:=by omega
    rw[qaf T (hT 424 qfH rfl) rfl];simp[qfH,Fr.ofArgs,↓qbZ,↓qcn,↓qba,↓qbP,w32,e429,e425,e431,g,↓qaA,↓qaE,mkA,qal];exact qb8 (show qii _ _ from⟨0,[],4,rfl,(fun h=>by cases h)⟩)
   ·have g : ¬((16:Int)<w.length):=by omega
    rw[qaf T (hT 424 qfH rfl) rfl];simp[qfH,Fr.ofArgs,↓qbZ,↓qcn,↓qba,↓qbP,w32,e429,e425,e431,g,↓qaA,↓qaE,↓qaD,putAt,mkA,qal,qas,qay,qcy];exact qb8 (show qii _ _ from⟨1,w,0,rfl,fun _=>⟨hne,hle⟩⟩)
 |false =>
  rw[hl] at e429;cases hd:qb6 (cN c) with
  |true =>
   rw[hd] at e432;have e425:=qk5 T hT 434 qh5 (fun n=>qBG T hT n) (c::r) (by rw[hm];omega) _ z
   have hne:(c::r).takeWhile (fun c=>qh5 (cN c))≠[]:=by
    rw[List.takeWhile_cons,if_pos (by unfold qh5 qgm;rw[hl,hd];rfl)];simp
   have hle:=qlK (fun c=>qh5 (cN c)) (c::r)
   generalize (c::r).takeWhile (fun c=>qh5 (cN c))=w at *
   obtain⟨k,t,e,e433,ht⟩:=qzi T hT hC w (by omega)
   unfold qha at e433;rw[qaf T (hT 424 qfH rfl) rfl];simp[qfH,Fr.ofArgs,↓qbZ,↓qcn,↓qba,↓qbP,w32,e429,e432,e425,e433];exact qb8 (show qii _ _ from⟨k,t,e,rfl,fun h=>by rw[ht h];exact⟨hne,hle⟩⟩)
  |false =>
   rw[hd] at e432;obtain⟨ms,t,o,e435,hn,hms⟩:=hW.marks;rw[qaf T (hT 424 qfH rfl) rfl];simp[qfH,Fr.ofArgs,↓qbZ,↓qcn,↓qba,↓qbP,w32,e429,e432,e435];refine qlC (fun i:Nat=>⟨[(36,.d (I i)),(35,.d (I ms.length)),(34,.d (.l K0 (ms.map DV.s) t)),(2,.p 0 0 0),(0,.d (.s (c::r)))],[some (.box (K1 3) (.d (.a [I 0,I 0,.s []])))]⟩) (fun i=>i≤ms.length) (fun i=>ms.length-i) ?_ 0 (Nat.zero_le _) (by simp[gc,Fr.keep,qae,qac,qab,PV.refs,qad,gcH,qag,Obj.refs,PV.ren,Obj.ren,Heap.obj,Fr.ren,gh,zzd])
   rintro B-i hi hx;by_cases hlt:i<ms.length
   ·have h1:(i:Int)<ms.length:=by omega
    have h3:=wr1 (i:=i) (by omega)
    obtain⟨b,e207,hb⟩:=qzz T hT (c::r) ms[i];cases b with
    |true =>
     simp[qmW,h1,hlt,e207,↓qaA,↓qaE,↓qaD,putAt,mkA,qal,qas,qay,qcy];exact qb8 (show qii _ _ from⟨4,ms[i],0,rfl,fun _=>⟨hms _ (zzs hlt),hb rfl⟩⟩)
    |false =>
     have hx':=hx (i+1) (by omega) (by omega)
     simp[qmW,h1,hlt,h3,e207];exact hx' _ _ (by simp[gc,Fr.keep,qae,qac,qab,PV.refs,qad,gcH,qag,Obj.refs,PV.ren,Obj.ren,Heap.obj,Fr.ren,gh,zzd])
   ·have:i=ms.length:=by omega
    subst this;have h1 : ¬((ms.length:Int)<ms.length):=by omega
    simp[qmW,↓qaA,↓qaE,mkA,qal];exact qb8 (show qii _ _ from⟨0,[],2,rfl,(fun h=>by cases h)⟩)
end Go.Sim
end
section
namespace Go.Sim
set_option maxRecDepth 10000
set_option maxHeartbeats 4000000
theorem qtl {R:Type} {a b c:DV} {q:PV→Option R}:bo (mkP (K1 3) [.d a,.d b,.d c]) (.h q)=q (.d (.a [a,b,c])):=rfl
def qjr (r:PV×Bool):Prop:=∃(l:List ATok) (t:Bool) (line e:Int),r=(.t [.d (.l (K1 3) (l.map ATok.dv) t),.d (I line),.d (I e)],false)
theorem qDm (T:Tab) (hT:HT T) (hC:HC T) (hW:HWd T) (s:List UInt8) (hs:s.length≤maxLen):Ans qjr (T.val 420 [.s s]):=by
 have hm:=mxl
 rw[qaf T (hT 420 qjo rfl) rfl];by_cases hg:2048<s.length
 ·have g:(2048:Int)<s.length:=by omega
  simp[qjo,Fr.ofArgs,g];exact qb8 (show qjr _ from⟨[],true,0,5,rfl⟩)
 have g : ¬((2048:Int)<s.length):=by omega
 simp[qjo,Fr.ofArgs,g];refine qlC (fun q:List UInt8×List ATok×Int=>⟨[(6,.d (I q.2.2)),(5,qav (K1 3) (q.2.1.map ATok.dv)),(0,.d (.s q.1))],qbU (K1 3) (q.2.1.map ATok.dv)⟩) (fun q=>q.1.length+q.2.1.length≤2048) (fun q=>q.1.length) ?_ (s,[],1) (by simp;omega) (by simp[gc,Fr.keep,qae,qac,qab,PV.refs,gcH,PV.ren,Obj.ren,Heap.obj,Fr.ren,gh,qav,qbU])
 rintro B-⟨u,l,line⟩ hi hx;simp only at hi hx⊢;have hx':=fun (s':List UInt8×List ATok×Int)=>hx s'
 clear hx
 obtain⟨n,hn,e422⟩:=qyd T hT u (by omega)
 have e423:T.val 423 [.s (u.take n),.s [10]]=some (.d (.i .i64 (qiu (u.take n) 10)),false):=by rw[hC.cnt];rfl
 have g1:(n:Int)≤u.length:=by omega
 generalize qiu (u.take n) 10=cnt at *
 obtain⟨v,hv⟩ : ∃v,u.drop n=v:=⟨_,rfl⟩;have hvl:v.length≤u.length:=by rw[←hv,List.length_drop];omega
 by_cases h0:v=[]
 ·subst h0;cases l with
  |nil =>
   simp[qh3,e422,e423,g1,hv,qav,qbU];exact qb8 (show qjr _ from⟨[],_,_,_,rfl⟩)
  |cons a l =>
   have ht:(l.map ATok.dv).take l.length=l.map ATok.dv:=List.take_of_length_le (by simp)
   simp[qh3,e422,e423,g1,hv,qav,qbU,ht,qbb,pur,qbO,PV.scal,PV.scal1,DV.scal,DV.scal1];exact qb8 (show qjr _ from⟨a::l,_,_,_,rfl⟩)
 have gv:=qhd h0
 obtain⟨rr,e424,k,t,e,hrr,hte⟩:=qCo T hT hC hW v h0 (by omega)
 rw[hrr] at e424;unfold qha at e424;by_cases he:e=0
 ·subst he;obtain⟨t0,tl⟩:=hte rfl;have t1:t.length≠0:=fun h=>t0 (List.length_eq_zero_iff.1 h)
  have g2:(t.length:Int)≤v.length:=by omega
  obtain⟨ln,hln⟩ : ∃ln,IntKind.i64.wrap (line+cnt)=ln:=⟨_,rfl⟩;have hx2:=hx' (v.drop t.length,l++[⟨k,ln,t⟩],ln) (by simp only[List.length_drop,zzp,zzn,List.length_nil];omega) (by simp only[List.length_drop];omega)
  clear hx'
  have ed:ATok.dv ⟨k,ln,t⟩ = .a [I k,I ln,.s t]:=rfl
  simp only[List.map_append,zzu,List.map_nil,ed] at hx2;cases l with
  |nil =>
   simp only[List.map_nil,List.nil_append,qav,qbU] at hx2⊢;simp[qh3,e422,e423,g1,hv,gv,e424,hln,g2,qed,qbR,qtl,putAt,qas,qay,List.take_length];exact hx2 _ _ (by simp[gc,Fr.keep,qae,qac,qab,PV.refs,qad,gcH,qag,Obj.refs,PV.ren,Obj.ren,Heap.obj,Fr.ren,gh,zzd])
  |cons a l =>
   simp only[zzu,List.cons_append,qav,qbU] at hx2⊢;simp only[zzn] at hi;have h5:(l.length+1+1)*32≤140737488355328:=by omega
   have ht:(l.map ATok.dv).take l.length=l.map ATok.dv:=List.take_of_length_le (by simp)
   simp[qh3,e422,e423,g1,hv,gv,e424,hln,g2,h5,ht,qed,qbR,qtl,putAt,qas,qay,List.take_length];exact hx2 _ _ (by simp[gc,Fr.keep,qae,qac,qab,PV.refs,qad,gcH,qag,Obj.refs,PV.ren,Obj.ren,Heap.obj,Fr.ren,gh,zzd])
 ·have ge:=qai he
  cases l with
  |nil =>
   simp[qh3,e422,e423,g1,hv,gv,e424,ge,bne,qav,qbU];exact qb8 (show qjr _ from⟨[],true,_,_,rfl⟩)
  |cons a l =>
   simp[qh3,e422,e423,g1,hv,gv,e424,ge,bne,qav,qbU];exact qb8 (show qjr _ from⟨[],true,_,_,rfl⟩)
theorem qEU (T:Tab) (hT:HT T) (hC:HC T) (hW:HWd T):HNm T:=by
 intro s hs;obtain⟨r,e420,l,t,line,e,hr⟩:=qDm T hT hC hW s hs;rw[hr] at e420;apply qoK
 rw[qaf T (hT 415 qhb rfl) rfl];by_cases he:e=0
 ·subst he;cases l with
  |nil =>
   simp[qhb,Fr.ofArgs,e420];exact qb8 (show IsB _ from⟨_,rfl⟩)
  |cons a l =>
   cases l with
   |nil =>
    by_cases hk:a.Kind=1
    ·simp[qhb,Fr.ofArgs,e420,hk];exact qb8 (show IsB _ from⟨_,rfl⟩)
    ·have gk:=qai hk
     simp[qhb,Fr.ofArgs,e420,gk];exact qb8 (show IsB _ from⟨_,rfl⟩)
   |cons b l =>
    have g1:((l.length:Int)+1+1==1)=false:=qai (by omega)
    have g2 : ¬((l.length:Int)+1+1=1):=by omega
    simp[qhb,Fr.ofArgs,e420,g1];exact qb8 (show IsB _ from⟨_,rfl⟩)
 ·have ge:=qai he
  simp[qhb,Fr.ofArgs,e420,ge];exact qb8 (show IsB _ from⟨_,rfl⟩)
end Go.Sim
end
section
namespace Go.Sim
set_option maxRecDepth 10000
set_option maxHeartbeats 4000000
def evB:List AVar→List AValue→Bool
 | [],[]=>true
 |v::vs,e::es=>(decide (e.Typ=v.Typ)&&okV e)&&evB vs es
 | _,_=>false
theorem quG : ∀(vs:List AVar) (es:List AValue),(∀e∈es,e.i)→evB vs es=true→qj7 vs es
 | [],[],_,_=>⟨rfl,fun i h=>absurd h (zzm _)⟩
 | [],_::_,_,h=>by cases h
 | _::_,[],_,h=>by cases h
 |v::vs,e::es,hi,h=>by
  simp only[evB,zzf,zzq] at h;have ih:=quG vs es (fun w hw=>hi w (by simp[hw])) h.2
  refine⟨by simp[ih.1],fun i h1 h2 => ?_⟩
  cases i with
  |zero=>exact⟨h.1.1,hi e (by simp),h.1.2⟩
  |succ i=>exact ih.2 i (by simpa using h1) (by simpa using h2)
theorem qrg : ∀(vs:List AVar) (es:List AValue),vs.length≠es.length→evB vs es=false
 | [],[],h=>absurd rfl h
 | [],_::_,_=>rfl
 | _::_,[],_=>rfl
 |v::vs,e::es,h=>by
  rw[evB,qrg vs es (by simpa using h),Bool.and_false]
theorem qBn (T:Tab) (hT:HT T) (vs:List AVar) (es:List AValue) (tv te:Bool) (hn:vs.length≤1000) (hl:vs.length=es.length) {k:KC (PV×Bool)} {r:Option (PV×Bool)} {fr:Fr} {H:Heap}
  (he:evB vs es=true→k (.exit 0) [(15,.d (.b false)),(14,.d (I es.length)),(13,.d (I es.length)),(12,.d (.l (K1 2) (es.map AValue.dv) te)),(0,.d (.l (K1 2) (vs.map AVar.dv) tv))] []=r)
  (hr:evB vs es=false→∀fr J,fr.get 4 = .d (.b false)→qaz fr=[]→k .ret fr J=r)
  (h0:gc [0,12,13,14] 0 ⟨fr,H⟩=⟨[(14,.d (I 0)),(13,.d (I es.length)),(12,.d (.l (K1 2) (es.map AValue.dv) te)),(0,.d (.l (K1 2) (vs.map AVar.dv) tv))],[]⟩) :
  kC T.env 0 fr H (.h (.loop [0,12,13,14] qi7,k))=r:=by
 refine qcN (fun i:Nat=>⟨[(14,.d (I i)),(13,.d (I es.length)),(12,.d (.l (K1 2) (es.map AValue.dv) te)),(0,.d (.l (K1 2) (vs.map AVar.dv) tv))],[]⟩) (fun i=>i≤es.length∧evB vs es=evB (vs.drop i) (es.drop i)) (fun i=>es.length-i) ?_ 0 ⟨Nat.zero_le _,by simp⟩ h0
 rintro B-i ⟨hi,ha⟩ hx;by_cases hlt:i<es.length
 ·have h1:(i:Int)<es.length:=by omega
  have h1':(i:Int)<vs.length:=by omega
  have hlt':i<vs.length:=by omega
  have h3:=wr1 (i:=i) (by omega)
  have e:=qqz T hT es[i]
  rw[List.drop_eq_getElem_cons hlt,List.drop_eq_getElem_cons hlt',evB] at ha;by_cases c:es[i].Typ=vs[i].Typ
  ·cases hk:okV es[i] with
   |true =>
    rw[hk,decide_eq_true c,Bool.true_and,Bool.true_and] at ha;rw[hk] at e;have hx':=hx (i+1) ⟨by omega,ha⟩ (by omega)
    simp[qi7,↓qa4,↓qa3,↓qaR,↓qa6,↓qaT,qaU,↓qaS,↓qbd,↓qaP,↓qaZ,↓qbB,↓qa2,↓qa8,↓qbq,qaK,writeS,touchS,qak,qax,chg,qaI,qaF,qau,qaH,PV.refs,IOp.okD,Nat.testBit,h1,h1',hlt,hlt',c,e,bne,h3];exact hx' _ _ (by simp[gc,Fr.keep,qae,qac,qab,PV.refs,gcH,PV.ren,Obj.ren,Heap.obj,Fr.ren,gh])
   |false =>
    rw[hk,Bool.and_false,Bool.false_and] at ha;rw[hk] at e;have hr':=hr ha
    simp[qi7,↓qa4,↓qa3,↓qaR,↓qa6,↓qaT,qaU,↓qaS,↓qbd,↓qaP,↓qaZ,↓qbB,↓qa2,↓qa8,↓qbq,qaK,writeS,touchS,qak,qax,chg,qaI,qaF,qau,qaH,PV.refs,IOp.okD,Nat.testBit,h1,h1',hlt,hlt',c,e,bne];exact hr' _ _ (by simp[Fr.get]) (by simp[qaz,gh])
  ·rw[decide_eq_false c,Bool.false_and,Bool.false_and] at ha;have g:=qai c
   have hr':=hr ha
   simp[qi7,↓qa4,↓qa3,↓qaR,↓qa6,↓qaT,qaU,↓qaS,↓qbd,↓qaP,↓qaZ,↓qbB,↓qa2,↓qa8,↓qbq,qaK,writeS,touchS,qak,qax,chg,qaI,qaF,qau,qaH,PV.refs,IOp.okD,Nat.testBit,h1,h1',hlt,hlt',g,bne];exact hr' _ _ (by simp[Fr.get]) (by simp[qaz,gh])
 ·have:i=es.length:=by omega
  subst this;rw[List.drop_of_length_le (zzt _),List.drop_of_length_le (by omega)] at ha
  have he':=he ha
  have h1 : ¬((es.length:Int)<es.length):=by omega
  simp[qi7];exact he'
theorem qB9 (T:Tab) (hT:HT T) (vs:List AVar) (es:List AValue) (tv te:Bool) (hn:vs.length≤1000):T.val 946 [.l (K1 2) (vs.map AVar.dv) tv,.l (K1 2) (es.map AValue.dv) te]=some (.d (.b (evB vs es)),false):=by
 rw[qaf T (hT 946 qiP rfl) rfl];by_cases hl:vs.length=es.length
 ·have lp:=fun k r fr H => @qBn T hT vs es tv te hn hl k r fr H
  have hli:((vs.length:Int)==(es.length:Int))=true:=by simp[hl]
  simp[qiP,Fr.ofArgs,hl,bne];refine lp _ _ _ _ (fun h => ?_) (fun h fr J h4 hg => ?_) (by simp[gc,Fr.keep,qae,qac,qab,PV.refs,gcH,PV.ren,Obj.ren,Heap.obj,Fr.ren,gh])
  ·rw[h];simp
  ·rw[h];simp[h4,hg]
 ·have hli:((vs.length:Int)==(es.length:Int))=false:=qai (by omega)
  have hli2 : ¬((vs.length:Int)=(es.length:Int)):=by omega
  rw[qrg vs es hl];simp[qiP,Fr.ofArgs,hli,bne]
theorem qzT (T:Tab) (hT:HT T) (hA:HA T) (vs:List AVar) (tv:Bool) (hv:vs.length≤1000) : ∀(n:Nat) (x:AExpr),SizeOf.sizeOf x.dv<n→x.ok→∃p,T.val 400 [x.dv,.l (K1 2) (vs.map AVar.dv) tv]=some (two p):=by
 intro n;induction n with
 |zero=>intro x h;exact absurd h (zzm _)
 |succ n ih =>
  intro x hn hx;by_cases h:x.Op=1∨x.Op=2∨x.Op=3∨x.Op=4
  ·exact⟨_,qqb T hT x vs tv hv h⟩
  ·obtain⟨l,h2,h3,h4⟩:=qjB hx;obtain⟨g,hg⟩:=qiX (P:=fun a p=>T.val 400 [a.dv,.l (K1 2) (vs.map AVar.dv) tv]=some (two p)) (fun a ha=>ih a (by have:=qjR h2 ha;omega) (h3 a ha))
   exact⟨_,qqH T hT hA x l h2 h4 _ g hg (by omega) (by omega) (by omega) (by omega)⟩
theorem qri (T:Tab) (hT:HT T) (hN:HNm T) (x:AExpr) (hx:x.ok) (V:DV) (p:Int×Int) (hp:T.val 400 [x.dv,V]=some (two p)) : ∃q,T.val 387 [x.dv,V]=some (two q)∧(q.2=0→q=p):=by
 obtain⟨n,e⟩:=qAO T hT hN x hx;by_cases h:n=0
 ·subst h;refine⟨p,?_,fun _=>rfl⟩
  unfold two at *
  rw[qaf T (hT 387 qhZ rfl) rfl];simp[qhZ,Fr.ofArgs,e,hp]
 ·have g:=qai h
  refine⟨(0,n),?_,fun h0=>absurd h0 h⟩
  unfold two at *
  rw[qaf T (hT 387 qhZ rfl) rfl];simp[qhZ,Fr.ofArgs,e,g,bne]
theorem qBj (T:Tab) (hT:HT T) (hA:HA T) (hN:HNm T) (vs:List AVar) (es:List AValue) (tv te:Bool) (hv:vs.length≤1000) (hi : ∀e∈es,e.i) (h945:T.val 945 [.l (K1 2) (vs.map AVar.dv) tv]=some (.d (I 0),false)) (x:AExpr) (hx:x.ok) :
  ∃q:AValue×Int,T.val 916 [x.dv,.l (K1 2) (vs.map AVar.dv) tv,.l (K1 2) (es.map AValue.dv) te]=some (qbi q):=by
 have e946:=qB9 T hT vs es tv te hv
 cases hb:evB vs es with
 |true =>
  rw[hb] at e946;obtain⟨p,h400,h947⟩:=qww T hT hA vs es tv te hv (quG vs es hi hb) _ x (Nat.lt_succ_self _) hx;obtain⟨q,h387,hq⟩:=qri T hT hN x hx _ p h400;by_cases h0:q.2=0
  ·obtain⟨v,e947,-⟩:=h947 (by rw[←hq h0];exact h0)
   refine⟨v,?_⟩;obtain⟨q1,q2⟩:=q;simp only at h0;subst h0;unfold two at h387;unfold qbi at e947⊢;rw[qaf T (hT 916 qf6 rfl) rfl];simp[qf6,Fr.ofArgs,h945,h387,e946,e947]
  ·refine⟨(⟨0,0⟩,q.2),?_⟩;have g:=qai h0
   unfold two at h387;unfold qbi;rw[qaf T (hT 916 qf6 rfl) rfl];simp[qf6,Fr.ofArgs,h945,h387,g,bne,↓qaA,↓qaE,mkA,qal,AValue.dv]
 |false =>
  rw[hb] at e946;obtain⟨p,h400⟩:=qzT T hT hA vs tv hv _ x (Nat.lt_succ_self _) hx;obtain⟨q,h387,-⟩:=qri T hT hN x hx _ p h400;by_cases h0:q.2=0
  ·refine⟨(⟨0,0⟩,1),?_⟩;obtain⟨q1,q2⟩:=q;simp only at h0;subst h0;unfold two at h387;unfold qbi;rw[qaf T (hT 916 qf6 rfl) rfl];simp[qf6,Fr.ofArgs,h945,h387,e946,↓qaA,↓qaE,mkA,qal,AValue.dv]
  ·refine⟨(⟨0,0⟩,q.2),?_⟩;have g:=qai h0
   unfold two at h387;unfold qbi;rw[qaf T (hT 916 qf6 rfl) rfl];simp[qf6,Fr.ofArgs,h945,h387,g,bne,↓qaA,↓qaE,mkA,qal,AValue.dv]
end Go.Sim
end
section
namespace Go.Sim
set_option maxRecDepth 10000
set_option maxHeartbeats 4000000
structure MvY (Y:Nat→List PV→Heap→Option (PV×Heap)) (σ:Type) (HS:σ→Heap) (m o pj pa:Nat) (j:List AEntry) (t:Bool) (acc:Int) (P:σ→Prop) (f:σ→AEntry→ALeg→σ):Prop where
 len : ∀s,(HS s).length=m
 cl : ∀s,Cl (HS s)
 oj : ∀s J,Heap.obj (HS s++J) pj=some (.box K0 (.d (.l (K1 10) (j.map AEntry.dv) t)))
 oa : ∀s J,Heap.obj (HS s++J) pa=some (.box K0 (.d (I acc)))
 lo:o<m∧pj<m∧pa<m
 hp : ∀s e x,P s→e∈j→x∈e.Legs.l→P (f s e x)
 y : ∀s e x,P s→e∈j→x∈e.Legs.l→x.Account=acc→Y o [.d e.dv,.d (I x.Amount)] (HS s++[some (.box (K1 10) (.d e.dv)),some (.box (K1 3) (.d x.dv))])=some (.d (.b true),HS (f s e x)++[some (.box (K1 10) (.d e.dv)),some (.box (K1 3) (.d x.dv))])
def mvL {σ:Type} (acc:Int) (f:σ→AEntry→ALeg→σ) (e:AEntry) (_:Nat) (s:σ) (x:ALeg):σ:=if x.Account=acc then f s e x else s
def mvE {σ:Type} (acc:Int) (f:σ→AEntry→ALeg→σ) (_:Nat) (s:σ) (e:AEntry):σ:=qam (mvL acc f e) 0 s e.Legs.l
section
variable {Y : Nat → List PV → Heap → Option (PV × Heap)} {σ : Type} {HS : σ → Heap} {m o pj pa : Nat} {j : List AEntry} {t : Bool} {acc : Int} {P : σ → Prop} {f : σ → AEntry → ALeg → σ}
theorem qzf (T:Tab) (h:MvY Y σ HS m o pj pa j t acc P f) (e:AEntry) (he:e∈j) (hn:e.Legs.l.length≤maxLen) (oi:Nat) (s0:σ) (hs0:P s0) {k:KC (PV×Heap)} {fr:Fr} {H:Heap}
  (h0:gc [0,2,5,8,9,10,15,16,17] m ⟨fr,H⟩=⟨[(17,.d (I 0)),(16,.d (I e.Legs.l.length)),(15,.d (.l (K1 3) (e.Legs.l.map ALeg.dv) e.Legs.t)),(10,.d (I oi)),(9,.d (I j.length)),(8,.d (.l (K1 10) (j.map AEntry.dv) t)),(5,.p m 0 0),(2,.p pa 0 0),(0,.h o)],HS s0++[some (.box (K1 10) (.d e.dv))]⟩) :
  kC (T.envY Y) m fr H (.h (.loop [0,2,5,8,9,10,15,16,17] qmI,k))=k (.exit 2) [(18,.d (.b false)),(17,.d (I e.Legs.l.length)),(16,.d (I e.Legs.l.length)),(15,.d (.l (K1 3) (e.Legs.l.map ALeg.dv) e.Legs.t)),(10,.d (I oi)),(9,.d (I j.length)),(8,.d (.l (K1 10) (j.map AEntry.dv) t)),(5,.p m 0 0),(2,.p pa 0 0),(0,.h o)] (HS (qam (mvL acc f e) 0 s0 e.Legs.l)++[some (.box (K1 10) (.d e.dv))]):=by
 have hm:=mxl
 rw[qcH e.Legs.l (fun i (s:σ)=>⟨[(17,.d (I i)),(16,.d (I e.Legs.l.length)),(15,.d (.l (K1 3) (e.Legs.l.map ALeg.dv) e.Legs.t)),(10,.d (I oi)),(9,.d (I j.length)),(8,.d (.l (K1 10) (j.map AEntry.dv) t)),(5,.p m 0 0),(2,.p pa 0 0),(0,.h o)],HS s++[some (.box (K1 10) (.d e.dv))]⟩) (fun _ s=>P s) (fun i s x c=>c (mvL acc f e i s x)) (fun s=>k (.exit 2) [(18,.d (.b false)),(17,.d (I e.Legs.l.length)),(16,.d (I e.Legs.l.length)),(15,.d (.l (K1 3) (e.Legs.l.map ALeg.dv) e.Legs.t)),(10,.d (I oi)),(9,.d (I j.length)),(8,.d (.l (K1 10) (j.map AEntry.dv) t)),(5,.p m 0 0),(2,.p pa 0 0),(0,.h o)] (HS s++[some (.box (K1 10) (.d e.dv))])) ?_ ?_ h0 hs0]
 ·rw[qiO (mvL acc f e) _ _ (fun _ _ _ _=>rfl)]
 ·intro B _ s _;simp[qmI]
 ·intro B _ i s hi hs c hc;have h1:(i:Int)<e.Legs.l.length:=by omega
  have h3:=wr1 (i:=i) (by omega)
  have hx:e.Legs.l[i]∈e.Legs.l:=zzs hi
  have hl:=h.len s
  have hoa:=h.oa s
  have ho0 : ∀J,Heap.obj (HS s++J) m=Heap.obj J 0:=fun J=>by rw[←hl];exact qiZ _ _
  have ho1 : ∀J,Heap.obj (HS s++J) (m+1)=Heap.obj J 1:=fun J=>by rw[←hl];exact qjF _ _ 1
  have hp1 : ∀J v,Heap.put (HS s++J) (m+1) v=HS s++Heap.put J 1 v:=fun J v=>by rw[←hl];exact qkC _ _ _ 1
  simp[qmI,h1,hi,hl,hoa,ho1,hp1];refine qbV (fun g => ?_) (fun g => ?_)
  ·have g':e.Legs.l[i].Account=acc:=by simpa using g
   have hy:=h.y s e e.Legs.l[i] hs he hx g'
   have hs':=h.hp s e e.Legs.l[i] hs he hx
   have hl':=h.len (f s e e.Legs.l[i])
   simp[g,h3,hl,ho0,ho1,hp1,hy,↓qz2,qBu];have e1:mvL acc f e i s e.Legs.l[i]=f s e e.Legs.l[i]:=by simp[mvL,g']
   rw[e1];refine hc _ _ _ hs' ?_;rw[←hl',qpq _ (h.cl _) rfl (by simp[Fr.keep,qac,gh,PV.refs]) (by simp[Fr.keep,qac,gh,PV.refs,hl'];have:=h.lo;omega) (by simp[Fr.keep,qac,gh,PV.refs,hl'])]
   simp[Fr.keep,gh,hl']
  ·have g' : ¬e.Legs.l[i].Account=acc:=by simpa using g
   simp[g,h3,hl,hp1];have e1:mvL acc f e i s e.Legs.l[i]=s:=by simp[mvL,g']
   rw[e1];refine hc _ _ _ hs ?_;rw[←hl,qpq _ (h.cl _) rfl (by simp[Fr.keep,qac,gh,PV.refs]) (by simp[Fr.keep,qac,gh,PV.refs,hl];have:=h.lo;omega) (by simp[Fr.keep,qac,gh,PV.refs,hl])]
   simp[Fr.keep,gh,hl]
theorem qDq (h:MvY Y σ HS m o pj pa j t acc P f) {e:AEntry} (he:e∈j) {s:σ} (hs:P s):P (qam (mvL acc f e) 0 s e.Legs.l):=by
 have key : ∀(l:List ALeg) (i:Nat) (s:σ),P s→(∀x∈l,x∈e.Legs.l)→P (qam (mvL acc f e) i s l):=by
  intro l;induction l with
  |nil=>intro i s hs _;exact hs
  |cons x l ih =>
   intro i s hs hl;rw[qam];refine ih _ _ ?_ fun y hy=>hl y (zzi _ hy)
   unfold mvL;split
   ·exact h.hp s e x hs he (hl x (zzr ..))
   ·exact hs
 exact key _ _ _ hs fun _ hx=>hx
theorem qyF (T:Tab) (h:MvY Y σ HS m o pj pa j t acc P f) (hn:j.length≤maxLen) (ho : ∀e∈j,e.Legs.l.length≤maxLen) (s0:σ) (hs0:P s0) {k:KC (PV×Heap)} {fr:Fr} {H:Heap}
  (h0:gc [0,2,8,9,10] m ⟨fr,H⟩=⟨[(10,.d (I 0)),(9,.d (I j.length)),(8,.d (.l (K1 10) (j.map AEntry.dv) t)),(2,.p pa 0 0),(0,.h o)],HS s0⟩) :
  kC (T.envY Y) m fr H (.h (.loop [0,2,8,9,10] qnf,k))=k (.exit 0) [(11,.d (.b false)),(10,.d (I j.length)),(9,.d (I j.length)),(8,.d (.l (K1 10) (j.map AEntry.dv) t)),(2,.p pa 0 0),(0,.h o)] (HS (qam (mvE acc f) 0 s0 j)):=by
 have hm:=mxl
 rw[qcH j (fun i (s:σ)=>⟨[(10,.d (I i)),(9,.d (I j.length)),(8,.d (.l (K1 10) (j.map AEntry.dv) t)),(2,.p pa 0 0),(0,.h o)],HS s⟩) (fun _ s=>P s) (fun i s x c=>c (mvE acc f i s x)) (fun s=>k (.exit 0) [(11,.d (.b false)),(10,.d (I j.length)),(9,.d (I j.length)),(8,.d (.l (K1 10) (j.map AEntry.dv) t)),(2,.p pa 0 0),(0,.h o)] (HS s)) ?_ ?_ h0 hs0]
 ·rw[qiO (mvE acc f) _ _ (fun _ _ _ _=>rfl)]
 ·intro B _ s _;simp[qnf]
 ·intro B _ i s hi hs c hc;have h1:(i:Int)<j.length:=by omega
  have h3:=wr1 (i:=i) (by omega)
  have he:j[i]∈j:=zzs hi
  have hl:=h.len s
  have ho0 : ∀J,Heap.obj (HS s++J) m=Heap.obj J 0:=fun J=>by rw[←hl];exact qiZ _ _
  have hp0 : ∀J v,Heap.put (HS s++J) m v=HS s++Heap.put J 0 v:=fun J v=>by rw[←hl];exact qlL _ _ _
  have lp:=fun k fr H => @qzf Y σ HS m o pj pa j t acc P f T h j[i] he (ho _ he) i s hs k fr H
  simp[qnf,h1,hi,hl,ho0,hp0];rw[lp]
  ·simp[h3];have hs':=qDq h he hs
   have hl':=h.len (qam (mvL acc f j[i]) 0 s j[i].Legs.l)
   refine (hc _ _ _ hs' ?_).trans rfl;rw[←hl',qq0 _ (h.cl _) (by simp[Fr.keep,qac,gh,PV.refs,hl'];have:=h.lo;omega)]
   simp[Fr.keep,gh]
  ·rw[←hl,qpq _ (h.cl _) rfl (by simp[Fr.keep,qac,gh,PV.refs]) (by simp[Fr.keep,qac,gh,PV.refs,hl];have:=h.lo;omega) (by simp[Fr.keep,qac,gh,PV.refs,hl])]
   simp[Fr.keep,gh,hl]
theorem qpU (T:Tab) (hT:HU T) (h:MvY Y σ HS m o pj pa j t acc P f) (hn:j.length≤maxLen) (ho : ∀e∈j,e.Legs.l.length≤maxLen) (s0:σ) (hs0:P s0) :
  T.it Y 59 [.h o,.p pj 0 0,.p pa 0 0] (HS s0)=some (.t [],HS (qam (mvE acc f) 0 s0 j)):=by
 rw[qC1 T (hT 59 F59 rfl) Y rfl];have lp:=fun k fr H => @qyF Y σ HS m o pj pa j t acc P f T h hn ho s0 hs0 k fr H
 have hl:=h.len s0
 have hoj:Heap.obj (HS s0) pj=some (.box K0 (.d (.l (K1 10) (j.map AEntry.dv) t))):=by have:=h.oj s0 [];rwa [List.append_nil] at this
 simp[F59,Fr.ofArgs,hl,hoj];rw[lp]
 ·simp[qv8];rw[hl,←h.len (qam (mvE acc f) 0 s0 j)];exact qiJ (h.cl _) (by simp[qeK,PV.refs,PV.refsL])
 ·rw[←hl,qj5 _ (h.cl _) (by simp[Fr.keep,qac,gh,PV.refs,hl];have:=h.lo;omega)]
  simp[Fr.keep,gh]
end
end Go.Sim
end
section
namespace Go.Sim
set_option maxRecDepth 10000
set_option maxHeartbeats 4000000
theorem qwV (T:Tab) (hT:HU T) (j:List AEntry) (t:Bool) (acc:Int) (k0:K) (v0:DV):T.ref 50 [.d (.l (K1 10) (j.map AEntry.dv) t),.d (I acc)] [some (.box k0 (.d v0))]=some (.f 59 [.p 1 0 0,.p 2 0 0],[some (.box k0 (.d v0)),some (.box K0 (.d (.l (K1 10) (j.map AEntry.dv) t))),some (.box K0 (.d (I acc)))]):=by
 rw[qf8 T (hT 50 F50 rfl) rfl];simp[F50,Fr.ofArgs,qfz,gcV,qae,qab,qag,Obj.refs,PV.refs,PV.refsL,qad,gcH,PV.ren,PV.renL,Obj.ren,Heap.obj,zzd]
def qiT (j:List AEntry) (t:Bool) (acc:Int) (s:Int):Heap:=[some (.box K0 (.d (I s))),some (.box K0 (.d (.l (K1 10) (j.map AEntry.dv) t))),some (.box K0 (.d (I acc))),some (.lp 0 none),some .df]
def fOf (s:Int) (_:AEntry) (x:ALeg):Int:=w64 (s-x.Amount)
def ofP (j:List AEntry) (acc:Int):Int:=qam (mvE acc fOf) 0 0 j
theorem qC6 (T:Tab) (_hT:HU T) (j:List AEntry) (t:Bool) (acc:Int):MvY (qhr T.env qnD qqy [(5,.p 0 0 0)] 3 [11,12]) Int (qiT j t acc) 5 3 1 2 j t acc (fun _=>True) fOf where
 len _:=rfl
 cl _:=by intro r h;simp[qiT,qab,qag,Obj.refs,PV.refs] at h
 oj _ _:=rfl
 oa _ _:=rfl
 lo:=⟨by decide,by decide,by decide⟩
 hp _ _ _ _ _ _:=trivial
 y s e x _ _ _ _:=by
  rw[qqj rfl rfl];simp[qnD,qqy,qiT,qfA];exact qiJ (H:=qiT j t acc (fOf s e x)++[some (.box (K1 10) (.d e.dv)),some (.box (K1 3) (.d x.dv))]) (by intro r h;simp[qiT,qab,qag,Obj.refs,PV.refs] at h) (v:=.d (.b true)) (by simp[PV.refs])
theorem qCc (T:Tab) (hT:HU T) (l:List AEntry) (t:Bool) (acc:Int) (hn:l.length≤maxLen) (ho : ∀e∈l,e.Legs.l.length≤maxLen):T.val 715 [.l (K1 10) (l.map AEntry.dv) t,I acc]=some (.d (I (ofP l acc)),false):=by
 rw[qaf T (hT 715 qjS rfl) rfl];have e:=qwV T hT l t acc K0 (I 0)
 have e2:=qpU T hT (qC6 T hT l t acc) hn ho 0 trivial
 simp[qjS,Fr.ofArgs,e,↓qp6,↓qpY,qqg,Fr.only];refine (congrArg (fun z=>bo z _) e2).trans ?_
 simp[qiS,qiT,fin,runG];rfl
theorem qhg (a b:Int):w64 (w64 a+b)=w64 (a+b):=by
 unfold w64;rw[IntKind.wrap_i64,IntKind.wrap_i64,IntKind.wrap_i64];omega
theorem qnM (a b:Int):w64 (a+w64 b)=w64 (a+b):=by rw[Int.add_comm,qhg,Int.add_comm]
theorem qkB (a:Int):w64 (w64 a)=w64 a:=by have:=qhg a 0;simpa using this
theorem qnh (acc s:Int) : ∀(l:List ALeg) (i:Nat) (d:Int),qam (qcs acc) i (w64 (s+d)) l=w64 (s+qam (qcs acc) i (w64 d) l)
 | [],i,d=>by simp only[qam];rw[qnM]
 |x::l,i,d=>by
  simp only[qam];by_cases h:(x.Account==acc)=true
  ·have e1:qcs acc i (w64 (s+d)) x=w64 (s+(d-x.Amount)):=by
    simp only[qcs,h,if_true,Int.sub_eq_add_neg,qhg,Int.add_assoc]
   have e2:qcs acc i (w64 d) x=w64 (d-x.Amount):=by
    simp only[qcs,h,if_true,Int.sub_eq_add_neg,qhg]
   rw[e1,e2,qnh acc s l (i+1)]
  ·have e1:qcs acc i (w64 (s+d)) x=w64 (s+d):=by simp only[qcs,if_neg h]
   have e2:qcs acc i (w64 d) x=w64 d:=by simp only[qcs,if_neg h]
   rw[e1,e2,qnh acc s l (i+1)]
theorem qs7 (acc:Int) (e:AEntry) : ∀(l:List ALeg) (i:Nat) (s:Int),qam (mvL acc fOf e) i s l=qam (qcs acc) i s l
 | [],_,_=>rfl
 |x::l,i,s=>by
  have:mvL acc fOf e i s x=qcs acc i s x:=by by_cases h:x.Account=acc<;>simp[mvL,qcs,fOf,h]
  rw[qam,qam,this,qs7 acc e l]
theorem qqF (acc:Int) : ∀(l:List AEntry) (i:Nat) (n:Int),w64 n=n→qam (mvE acc fOf) i n l=qam (qmJ acc) i n l
 | [],_,_,_=>rfl
 |e::l,i,n,h=>by
  have e1:mvE acc fOf i n e=qmJ acc i n e:=by
   unfold mvE qmJ qlr;rw[qs7]
   have:=qnh acc n e.Legs.l 0 0
   rw[Int.add_zero,h,show w64 0=0 from rfl] at this
   exact this
  rw[qam,qam,e1];exact qqF acc l (i+1) _ (qkB _)
theorem qEQ (l:List AEntry) (acc:Int):ofP l acc=ofR l acc:=qqF acc l 0 0 rfl
end Go.Sim
end
section
namespace Go.Sim
set_option maxRecDepth 10000
set_option maxHeartbeats 4000000
end Go.Sim
end
section
namespace Go.Sim
set_option maxRecDepth 10000
set_option maxHeartbeats 4000000
theorem qEE (T:Tab) (hT:HU T) (j:List AEntry) (t:Bool) (acc:Int) (k0 k1 k2 k3:K) (v0 v1 v2 v3:DV):T.ref 50 [.d (.l (K1 10) (j.map AEntry.dv) t),.d (I acc)] [some (.box k0 (.d v0)),some (.box k1 (.d v1)),some (.box k2 (.d v2)),some (.box k3 (.d v3))]=some (.f 59 [.p 4 0 0,.p 5 0 0],[some (.box k0 (.d v0)),some (.box k1 (.d v1)),some (.box k2 (.d v2)),some (.box k3 (.d v3)),some (.box K0 (.d (.l (K1 10) (j.map AEntry.dv) t))),some (.box K0 (.d (I acc)))]):=by
  rw[qf8 T (hT 50 F50 rfl) rfl];simp[F50,Fr.ofArgs,qfz,gcV,qae,qab,qag,Obj.refs,PV.refs,PV.refsL,qad,gcH,PV.ren,PV.renL,Obj.ren,Heap.obj,zzd]
abbrev DC:=Int×Int
def fTo (frm upto:Int) (s:DC) (e:AEntry) (x:ALeg):DC:=if e.Booked<frm∨upto<e.Booked then s else if 0<x.Amount then (w64 (s.1+x.Amount),s.2) else (s.1,w64 (s.2-x.Amount))
def qgI (frm upto:Int) (j:List AEntry) (t:Bool) (acc:Int) (s:DC):Heap:=[some (.box K0 (.d (I frm))),some (.box K0 (.d (I upto))),some (.box K0 (.d (I s.1))),some (.box K0 (.d (I s.2))),some (.box K0 (.d (.l (K1 10) (j.map AEntry.dv) t))),some (.box K0 (.d (I acc))),some (.lp 0 none),some .df]
theorem qxW (T:Tab) (_hT:HU T) (frm upto:Int) (j:List AEntry) (t:Bool) (acc:Int):MvY (qhr T.env qnn qpt [(11,.p 3 0 0),(10,.p 2 0 0),(7,.p 1 0 0),(6,.p 0 0 0)] 6 [17,18]) DC (qgI frm upto j t acc) 8 6 4 5 j t acc (fun _=>True) (fTo frm upto) where
  len _:=rfl
  cl _:=by intro r h;simp[qgI,qab,qag,Obj.refs,PV.refs] at h
  oj _ _:=rfl
  oa _ _:=rfl
  lo:=⟨by decide,by decide,by decide⟩
  hp _ _ _ _ _ _:=trivial
  y s e x _ _ _ _:=by
    rw[qqj rfl rfl];simp[qnn,qpt,qgI,qfA];repeat' (refine qbV (fun h => ?_) (fun h => ?_)<;>(try simp at h)<;>(try simp[h]))
    all_goals first
      | (have ef:fTo frm upto s e x=s:=by rw[fTo,if_pos (by omega)]
         rw[ef];exact qiJ (H:=qgI frm upto j t acc s++[some (.box (K1 10) (.d e.dv)),some (.box (K1 3) (.d x.dv))]) (by intro r h;simp[qgI,qab,qag,Obj.refs,PV.refs] at h) (v:=.d (.b true)) (by simp[PV.refs]))
      | (have ef:fTo frm upto s e x=(w64 (s.1+x.Amount),s.2):=by rw[fTo,if_neg (by omega),if_pos (by omega)]
         rw[ef];exact qiJ (H:=qgI frm upto j t acc (w64 (s.1+x.Amount),s.2)++[some (.box (K1 10) (.d e.dv)),some (.box (K1 3) (.d x.dv))]) (by intro r h;simp[qgI,qab,qag,Obj.refs,PV.refs] at h) (v:=.d (.b true)) (by simp[PV.refs]))
      | (have ef:fTo frm upto s e x=(s.1,w64 (s.2-x.Amount)):=by rw[fTo,if_neg (by omega),if_neg (by omega)]
         rw[ef];exact qiJ (H:=qgI frm upto j t acc (s.1,w64 (s.2-x.Amount))++[some (.box (K1 10) (.d e.dv)),some (.box (K1 3) (.d x.dv))]) (by intro r h;simp[qgI,qab,qag,Obj.refs,PV.refs] at h) (v:=.d (.b true)) (by simp[PV.refs]))
theorem qvA (T:Tab) (hT:HU T) (hV:HV T) (l:List AEntry) (t:Bool) (acc frm upto:Int) (hn:l.length≤maxLen) (ho : ∀e∈l,e.Legs.l.length≤maxLen):T.val 882 [.l (K1 10) (l.map AEntry.dv) t,I acc,I frm,I upto]=some (.t [.d (I (qam (mvE acc (fTo frm upto)) 0 (0,0) l).1),.d (I (qam (mvE acc (fTo frm upto)) 0 (0,0) l).2)],false):=by
  rw[qaf T (hV 882 qkb rfl) rfl];have e:=qEE T hT l t acc K0 K0 K0 K0 (I frm) (I upto) (I 0) (I 0)
  have e2:=qpU T hT (qxW T hT frm upto l t acc) hn ho (0,0) trivial
  simp[qkb,Fr.ofArgs,e,↓qp6,↓qpY,qqg,Fr.only];refine (congrArg (fun z=>bo z _) e2).trans ?_
  simp[qiS,qgI,fin,runG,↓qa4,↓qa3,↓qaR,↓qaT,qaU,↓qaS,↓qaP,qaK,writeS,touchS,qak,qax,chg,qaI,qaF,qau,qaH,PV.refs,IOp.okD,Nat.testBit];try rfl
def fTr (acc:Int) (_:Nat) (s:DC) (x:ALeg):DC:=if x.Account=acc∧0<x.Amount then (w64 (s.1+x.Amount),s.2) else if x.Account=acc∧x.Amount<0 then (s.1,w64 (s.2-x.Amount)) else s
def fTR (acc frm upto:Int) (_:Nat) (s:DC) (e:AEntry):DC:=if e.Booked<frm∨upto<e.Booked then s else qam (fTr acc) 0 s e.Legs.l
def qhG (j:List AEntry) (acc frm upto:Int):DC:=qam (fTR acc frm upto) 0 (0,0) j
theorem qmM {acc:Int} {i:Nat} {s:DC} {x:ALeg} (h1:w64 s.1=s.1) (h2:w64 s.2=s.2):w64 (fTr acc i s x).1=(fTr acc i s x).1∧w64 (fTr acc i s x).2=(fTr acc i s x).2:=by
  unfold fTr;split
  · exact⟨qkB _,h2⟩
  · split
    · exact⟨h1,qkB _⟩
    · exact⟨h1,h2⟩
theorem qt1 {acc:Int} : ∀(l:List ALeg) (i:Nat) (s:DC),w64 s.1=s.1→w64 s.2=s.2→w64 (qam (fTr acc) i s l).1=(qam (fTr acc) i s l).1∧w64 (qam (fTr acc) i s l).2=(qam (fTr acc) i s l).2
  | [],_,_,h1,h2=>⟨h1,h2⟩
  |x::l,i,s,h1,h2=>by rw[qam];exact qt1 l _ _ (qmM h1 h2).1 (qmM h1 h2).2
theorem qpL (acc frm upto:Int) (e:AEntry) : ∀(l:List ALeg) (i:Nat) (s:DC),w64 s.1=s.1→w64 s.2=s.2→qam (mvL acc (fTo frm upto) e) i s l=if e.Booked<frm∨upto<e.Booked then s else qam (fTr acc) i s l
  | [],_,s,_,_=>by simp[qam]
  |x::l,i,s,h1,h2=>by
    by_cases h:e.Booked<frm∨upto<e.Booked
    · have e1:mvL acc (fTo frm upto) e i s x=s:=by unfold mvL fTo;split<;>simp
      rw[qam,e1,qpL acc frm upto e l _ _ h1 h2,if_pos h,if_pos h]
    · have e1:mvL acc (fTo frm upto) e i s x=fTr acc i s x:=by
        unfold mvL fTo fTr;rw[if_neg h];by_cases ha:x.Account=acc
        · rw[if_pos ha]
          by_cases hp:0<x.Amount
          · rw[if_pos hp,if_pos ⟨ha,hp⟩]
          · rw[if_neg hp,if_neg (by omega)]
            by_cases hm:x.Amount<0
            · rw[if_pos ⟨ha,hm⟩]
            · rw[if_neg (by omega),show x.Amount=0 by omega,Int.sub_zero,h2]
        · rw[if_neg ha,if_neg (fun q=>ha q.1),if_neg (fun q=>ha q.1)]
      rw[qam,e1,qpL acc frm upto e l _ _ (qmM h1 h2).1 (qmM h1 h2).2,if_neg h,if_neg h,qam]
theorem qtA (acc frm upto:Int) : ∀(l:List AEntry) (i:Nat) (s:DC),w64 s.1=s.1→w64 s.2=s.2→qam (mvE acc (fTo frm upto)) i s l=qam (fTR acc frm upto) i s l
  | [],_,_,_,_=>rfl
  |e::l,i,s,h1,h2=>by
    have e1:mvE acc (fTo frm upto) i s e=fTR acc frm upto i s e:=by
      unfold mvE fTR;exact qpL acc frm upto e _ _ _ h1 h2
    have q:w64 (fTR acc frm upto i s e).1=(fTR acc frm upto i s e).1∧w64 (fTR acc frm upto i s e).2=(fTR acc frm upto i s e).2:=by
      unfold fTR;split
      · exact⟨h1,h2⟩
      · exact qt1 _ _ _ h1 h2
    rw[qam,qam,e1];exact qtA acc frm upto l (i+1) _ q.1 q.2
theorem qAo (T:Tab) (hT:HU T) (hV:HV T) (l:List AEntry) (t:Bool) (acc frm upto:Int) (hn:l.length≤maxLen) (ho : ∀e∈l,e.Legs.l.length≤maxLen):T.val 882 [.l (K1 10) (l.map AEntry.dv) t,I acc,I frm,I upto]=some (.t [.d (I (qhG l acc frm upto).1),.d (I (qhG l acc frm upto).2)],false):=by
  rw[qvA T hT hV l t acc frm upto hn ho,qtA acc frm upto l 0 (0,0) rfl rfl];rfl
end Go.Sim
end
section
namespace Go.Sim
set_option maxRecDepth 10000
set_option maxHeartbeats 4000000
def qbS (s:Int):List Int→List Int
 | []=>[]
 |x::r=>w64 (s+x)::qbS (w64 (s+x)) r
def qcd:Nat→Int→List Int→List Int
 | _,_,[]=>[]
 | 0,n,x::r=>w64 (x+n)::qcd 0 n r
 |k+1,n,x::r=>x::qcd k n r
theorem qmX : ∀(l:List Int) (s:Int),(qbS s l).length=l.length
 | [],_=>rfl
 |x::l,s=>by simp[qbS,qmX l]
theorem qqm : ∀(l:List Int) (k:Nat) (n:Int),(qcd k n l).length=l.length
 | [],_,_=>rfl
 |x::l,0,n=>by simp[qcd,qqm l]
 |x::l,k+1,n=>by simp[qcd,qqm l]
theorem qr7 : ∀(l:List Int) (s a:Int),qbS (w64 (s+a)) l=qcd 0 a (qbS s l)
 | [],_,_=>rfl
 |x::l,s,a=>by
  have e:w64 (w64 (s+a)+x)=w64 (w64 (s+x)+a):=by rw[qhg,qhg];congr 1;omega
  simp only[qbS,qcd];rw[e,qr7 l]
theorem qrj : ∀(l:List Int) (k:Nat) (s a:Int) (h:k<l.length),qbS s (l.set k (w64 (l[k]+a)))=qcd k a (qbS s l)
 | [],_,_,_,h=>absurd h (by simp)
 |x::l,0,s,a,_=>by
  have e:w64 (s+w64 (x+a))=w64 (w64 (s+x)+a):=by rw[qhg,qnM];congr 1;omega
  simp only[List.set_cons_zero,List.getElem_cons_zero,qbS,qcd];rw[e,qr7]
 |x::l,k+1,s,a,h=>by
  simp only[List.set_cons_succ,List.getElem_cons_succ,qbS,qcd];rw[qrj l k _ a (by simpa using h)]
theorem qoa : ∀(l:List Int) (k:Nat) (a b:Int),qcd k a (qcd k b l)=qcd k (w64 (b+a)) l
 | [],_,_,_=>rfl
 |x::l,0,a,b=>by
  simp only[qcd];rw[qoa l,qhg,qnM,Int.add_assoc]
 |x::l,k+1,a,b=>by simp only[qcd];rw[qoa l]
theorem qp7 : ∀(l:List Int) (k:Nat),(∀x∈l,w64 x=x)→qcd k 0 l=l
 | [],_,_=>rfl
 |x::l,0,h=>by simp only[qcd,Int.add_zero];rw[qp7 l 0 fun y hy=>h y (zzi _ hy),h x (zzr ..)]
 |x::l,k+1,h=>by simp only[qcd];rw[qp7 l k fun y hy=>h y (zzi _ hy)]
theorem qva : ∀(l:List Int) (k:Nat) (a:Int),l.length≤k→qcd k a l=l
 | [],_,_,_=>rfl
 |x::l,0,a,h=>by simp at h
 |x::l,k+1,a,h=>by simp only[qcd];rw[qva l k a (by simpa using h)]
theorem qrZ : ∀n,qbS 0 (List.replicate n 0)=List.replicate n 0
 | 0=>rfl
 |n+1=>by simp only[List.replicate_succ,qbS];rw[show w64 (0+0)=0 from rfl,qrZ n]
def psP (s:Int):Nat→List Int→List Int
 | _,[]=>[]
 | 0,l=>l
 |i+1,x::r=>w64 (s+x)::psP (w64 (s+x)) i r
theorem qmC : ∀(l:List Int) (s:Int) (i:Nat),(psP s i l).length=l.length
 | [],s,i=>by cases i<;>rfl
 |x::l,s,0=>rfl
 |x::l,s,i+1=>by simp[psP,qmC l]
theorem qsg : ∀(l:List Int) (s:Int) (i:Nat),l.length≤i→psP s i l=qbS s l
 | [],s,i,_=>by cases i<;>rfl
 |x::l,s,0,h=>by simp at h
 |x::l,s,i+1,h=>by simp only[psP,qbS];rw[qsg l _ i (by simpa using h)]
theorem quv (l:List Int) (s:Int):psP s 0 l=l:=by cases l<;>rfl
theorem qt8 : ∀(l:List Int) (s:Int) (i:Nat) (h:i+1<(psP s (i+1) l).length),(psP s (i+1) l).set (i+1) (w64 ((psP s (i+1) l)[i+1]+(psP s (i+1) l)[i]))=psP s (i+2) l
 | [],s,i,h=>by simp[psP] at h
 | [x],s,i,h=>by simp[qmC] at h
 |x::y::l,s,0,h=>by
  simp only[psP,List.set_cons_succ,List.set_cons_zero,List.getElem_cons_succ,List.getElem_cons_zero,quv];rw[show w64 (y+w64 (s+x))=w64 (w64 (s+x)+y) by rw[Int.add_comm]]
 |x::y::l,s,i+1,h=>by
  have ih:=qt8 (y::l) (w64 (s+x)) i (by rw[qmC] at h⊢;simp at h⊢;omega)
  have a:psP s (i+1+1) (x::y::l)=w64 (s+x)::psP (w64 (s+x)) (i+1) (y::l):=rfl
  have b:psP s (i+1+2) (x::y::l)=w64 (s+x)::psP (w64 (s+x)) (i+2) (y::l):=rfl
  simp only[a,b,List.set_cons_succ,List.getElem_cons_succ];exact congrArg _ ih
theorem qzP (l:List Int) (h : ∀x∈l,w64 x=x):psP 0 1 l=l:=by
 cases l with
 |nil=>rfl
 |cons x r=>simp only[psP,Int.zero_add,quv];rw[h x (zzr ..)]
end Go.Sim
end
section
namespace Go.Sim
set_option maxRecDepth 10000
set_option maxHeartbeats 4000000
def dOf (frm v:Int):Nat:=(max frm v-frm).toNat
def fDa (frm upto:Int) (es:List Int) (e:AEntry) (x:ALeg):List Int:=if e.Value≤upto then (match es[dOf frm e.Value]? with|some v=>es.set (dOf frm e.Value) (w64 (v-x.Amount))|none=>es) else es
theorem qqp {frm upto:Int} {es:List Int} {e:AEntry} {x:ALeg}:(fDa frm upto es e x).length=es.length:=by
 unfold fDa;split
 ·split
  ·simp
  ·rfl
 ·rfl
def qfI (frm upto:Int) (j:List AEntry) (t:Bool) (acc:Int) (n:Nat) (es:List Int):Heap:=[some (.box K0 (.d (I frm))),some (.box K0 (.d (I upto))),some (.sl K0 0 (es.map I)),some (.box K0 (.r 2 K0 0 n false)),some (.box K0 (.d (.l (K1 10) (j.map AEntry.dv) t))),some (.box K0 (.d (I acc))),some (.lp 0 none),some .df]
theorem qCL (T:Tab) (hT:HU T) (j:List AEntry) (t:Bool) (acc frm upto:Int) (n:Nat) (es:List DV):T.ref 50 [.d (.l (K1 10) (j.map AEntry.dv) t),.d (I acc)] [some (.box K0 (.d (I frm))),some (.box K0 (.d (I upto))),some (.sl K0 0 es),some (.box K0 (.r 2 K0 0 n false))]=some (.f 59 [.p 4 0 0,.p 5 0 0],[some (.box K0 (.d (I frm))),some (.box K0 (.d (I upto))),some (.sl K0 0 es),some (.box K0 (.r 2 K0 0 n false)),some (.box K0 (.d (.l (K1 10) (j.map AEntry.dv) t))),some (.box K0 (.d (I acc)))]):=by
 rw[qf8 T (hT 50 F50 rfl) rfl];simp[F50,Fr.ofArgs,qfz,gcV,qae,qab,qag,Obj.refs,PV.refs,PV.refsL,qad,gcH,PV.ren,PV.renL,Obj.ren,Heap.obj,zzd]
theorem qyb (T:Tab) (_hT:HU T) (frm upto:Int) (j:List AEntry) (t:Bool) (acc:Int) (n:Nat) (h1:qbX frm=true) (h2:qbX upto=true) (h3:frm≤upto) (hn:(n:Int)=upto-frm+1):MvY (qhr T.env ql9 qng [(9,.p 3 0 0),(7,.p 1 0 0),(6,.p 0 0 0)] 6 [40,41]) (List Int) (qfI frm upto j t acc n) 8 6 4 5 j t acc (fun es=>es.length=n) (fDa frm upto) where
 len _:=rfl
 cl _:=by intro r h;simp[qfI,qab,qag,Obj.refs,PV.refs] at h;subst h;simp[qfI]
 oj _ _:=rfl
 oa _ _:=rfl
 lo:=⟨by decide,by decide,by decide⟩
 hp _ _ _ h _ _:=by rw[qqp];exact h
 y es e x hl _ _ _:=by
  simp only[qbX,zzf,zzq] at h1 h2;rw[qqj rfl rfl];by_cases hv:e.Value≤upto
  ·obtain⟨m,hm⟩ : ∃m,max frm e.Value=m:=⟨_,rfl⟩;have hm1:frm≤m∧m≤upto:=by omega
   obtain⟨k,hk⟩ : ∃k,dOf frm e.Value=k:=⟨_,rfl⟩;have hk1:(k:Int)=m-frm:=by rw[←hk,dOf,hm];omega
   have w:IntKind.i64.wrap (m-frm)=(k:Int):=(wrI (by omega) (by omega)).trans hk1.symm
   have hk':(k:Int)<n:=by omega
   have hke:k<es.length:=by omega
   have hg:es[k]? = some es[k]:=zze hke
   have ef:fDa frm upto es e x=es.set k (w64 (es[k]-x.Amount)):=by rw[fDa,if_pos hv,hk,hg]
   rw[ef];simp[ql9,qng,qfI,qfA,hv,w,↓qin,-qcj,↓qjQ,↓qmk,↓qkQ,↓qh1,hm,hl,hk',hg,↓qfu];have ms : ∀v,(es.map I).set k (I v)=(es.set k v).map I:=fun v=>List.map_set.symm
   rw[ms,ms];exact qio (H:=qfI frm upto j t acc n (es.set k (w64 (es[k]-x.Amount)))++[some (.box (K1 10) (.d e.dv)),some (.box (K1 3) (.d x.dv))]) (by intro r h;simp[qfI,qab,qag,Obj.refs,PV.refs] at h;subst h;simp[qfI]) [some (.box (K1 10) (.d e.dv))] (.b true)
  ·have ef:fDa frm upto es e x=es:=by rw[fDa,if_neg hv]
   rw[ef];simp[ql9,qng,qfI,qfA,hv];exact qio (H:=qfI frm upto j t acc n es++[some (.box (K1 10) (.d e.dv)),some (.box (K1 3) (.d x.dv))]) (by intro r h;simp[qfI,qab,qag,Obj.refs,PV.refs] at h;subst h;simp[qfI]) [some (.box (K1 10) (.d e.dv))] (.b true)
theorem qwP (T:Tab) (es:List Int) (n:Nat) (hl:es.length=n) (hn:0<n) (hn2:n<5000) (hz : ∀x∈es,w64 x=x) {k:KC (PV×Bool)} {fr:Fr} {H:Heap} (h0:gc [9,12] 0 ⟨fr,H⟩=⟨[(100041,.g (.h 0)),(12,.d (I 1)),(9,.p 1 0 0)],[some .df,some (.box K0 (.r 2 K0 0 n false)),some (.sl K0 0 (es.map I))]⟩) :
  kC T.env 0 fr H (.h (.loop [9,12] qlo,k))=k (.exit 2) [(100041,.g (.h 0)),(61,.d (.b false)),(12,.d (I n)),(9,.p 1 0 0)] [some .df,some (.box K0 (.r 2 K0 0 n false)),some (.sl K0 0 ((qbS 0 es).map I))]:=by
 refine qhP (fun s:Nat×List Int=>⟨[(100041,.g (.h 0)),(12,.d (I s.1)),(9,.p 1 0 0)],[some .df,some (.box K0 (.r 2 K0 0 n false)),some (.sl K0 0 (s.2.map I))]⟩) (fun i=>(i+1,psP 0 (i+1) es)) (n-1) ?_ ?_ (by rw[h0,qzP _ hz];rfl)
 ·intro B _;have e:n-1+1=n:=by omega
  have e2:psP 0 n es=qbS 0 es:=qsg _ _ _ (by omega)
  have e3:(qbS 0 es).length=n:=by rw[qmX,hl]
  simp only[e,e2];simp[qlo,e3]
 ·intro B _ i hi c hc;have hlen:(psP 0 (i+1) es).length=n:=by rw[qmC,hl]
  have hst:=qt8 es 0 i (by omega)
  obtain⟨fs,hfs⟩ : ∃fs,psP 0 (i+1) es=fs:=⟨_,rfl⟩;have g5':i+1<fs.length:=by rw[←hfs];omega
  have hst':psP 0 (i+1+1) es=fs.set (i+1) (w64 (fs[i+1]+fs[i])):=by subst hfs;exact hst.symm
  simp only[hfs] at hlen;clear hst
  simp only[hst'] at hc;simp only[hfs];have g1:(i:Int)+1<n:=by omega
  have g2:i+1<n:=by omega
  have g3:i<n:=by omega
  have g4:(i:Int)<n:=by omega
  have g5:i+1<fs.length:=by omega
  have g6:i<fs.length:=by omega
  have g7:(0:Int)≤(i:Int)+1:=by omega
  have g8:((i:Int)+1).toNat=i+1:=by omega
  have w1:IntKind.i64.wrap ((i:Int)+1-1)=i:=by rw[wrI (by omega) (by omega)];omega
  have w1':IntKind.i64.wrap (i:Int)=i:=wrI (by omega) (by omega)
  have w2:IntKind.i64.wrap ((i:Int)+1+1)=(i:Int)+1+1:=wrI (by omega) (by omega)
  simp[qlo,↓qa4,↓qa3,↓qaR,↓qbf,↓qaT,qaU,↓qaS,↓qaP,↓qbg,↓qaZ,↓qa8,qaK,writeS,touchS,qak,qax,chg,qaI,qaF,qau,qaH,PV.refs,IOp.okD,Nat.testBit,hlen,g1,g2,g3,g4,g7,w1',w2,↓qin,-qcj,↓qjQ,↓qkQ,↓qh1];refine hc _ _ ?_;rw[show ∀v,(fs.map I).set (i+1) (DV.i .i64 v)=(fs.set (i+1) v).map I from fun v=>List.map_set.symm]
  simp[gc,Fr.keep,qae,qac,qab,PV.refs,qad,gcH,qag,Obj.refs,PV.ren,Obj.ren,Heap.obj,Fr.ren,gh,zzd,w64]
def qit (frm upto:Int):Bool:=qbX frm&&(qbX upto&&(decide (frm≤upto)&&decide (upto-frm<4000)))
def zer (frm upto:Int):List Int:=List.replicate (upto-frm+1).toNat 0
def qhN (j:List AEntry) (acc frm upto:Int):List Int:=if qit frm upto=true then qbS 0 (qam (mvE acc (fDa frm upto)) 0 (zer frm upto) j) else []
theorem qyw {frm upto:Int} {es:List Int} {e:AEntry} {x:ALeg} (h : ∀y∈es,w64 y=y) : ∀y∈fDa frm upto es e x,w64 y=y:=by
 intro y hy;unfold fDa at hy;split at hy
 ·split at hy
  ·rcases List.mem_or_eq_of_mem_set hy with hy|rfl
   ·exact h y hy
   ·exact qkB _
  ·exact h y hy
 ·exact h y hy
theorem qmP {acc frm upto:Int} (P:List Int→Prop) (hP : ∀es e x,P es→P (fDa frm upto es e x)) : ∀(j:List AEntry) (i:Nat) (es:List Int),P es→P (qam (mvE acc (fDa frm upto)) i es j)
 | [],_,_,h=>h
 |e::j,i,es,h=>by
  rw[qam];refine qmP P hP j _ _ ?_;have : ∀(l:List ALeg) (i:Nat) (es:List Int),P es→P (qam (mvL acc (fDa frm upto) e) i es l):=by
   intro l;induction l with
   |nil=>intro _ _ h;exact h
   |cons x l ih =>
    intro i es h;rw[qam];refine ih _ _ ?_;unfold mvL;split
    ·exact hP _ _ _ h
    ·exact h
  exact this _ _ _ h
theorem qCC (T:Tab) (hT:HU T) (hV:HV T) (j:List AEntry) (t:Bool) (acc frm upto:Int) (hn:j.length≤maxLen) (ho : ∀e∈j,e.Legs.l.length≤maxLen):T.val 880 [.l (K1 10) (j.map AEntry.dv) t,I acc,I frm,I upto]=some (.d (.l K0 ((qhN j acc frm upto).map I) false),true):=by
 rw[qaf T (hV 880 qiC rfl) rfl];have e1:=qkr T hV frm
 have e2:=qkr T hV upto
 by_cases hok:qit frm upto=true
 ·have hd:qhN j acc frm upto=qbS 0 (qam (mvE acc (fDa frm upto)) 0 (zer frm upto) j):=by rw[qhN,if_pos hok]
  rw[hd];simp only[qit,zzf,zzq] at hok;obtain⟨h1,h2,h3,h4⟩:=hok;rw[h1] at e1;rw[h2] at e2;obtain⟨h1a,h1b⟩:0≤frm∧frm≤73048:=by simpa[qbX] using h1
  obtain⟨h2a,h2b⟩:0≤upto∧upto≤73048:=by simpa[qbX] using h2
  obtain⟨n,hnn⟩ : ∃n:Nat,(n:Int)=upto-frm+1:=⟨(upto-frm+1).toNat,by omega⟩
  have w1:IntKind.i64.wrap (upto-frm)=upto-frm:=wrI (by omega) (by omega)
  have w2:IntKind.i64.wrap (upto-frm+1)=(n:Int):=by rw[wrI (by omega) (by omega)];omega
  have g1 : ¬upto<frm:=by omega
  have g2 : ¬(4000≤upto-frm):=by omega
  have g3:(n:Int)*8≤140737488355328:=by omega
  have hz:(upto-frm+1).toNat=n:=by omega
  have e3:=qCL T hT j t acc frm upto n (List.replicate n (I 0))
  have e4:=qpU T hT (qyb T hT frm upto j t acc n h1 h2 h3 hnn) hn ho (List.replicate n 0) (by simp)
  have hS:zer frm upto=List.replicate n 0:=by rw[zer,hz]
  rw[hS];have hlen:(qam (mvE acc (fDa frm upto)) 0 (List.replicate n 0) j).length=n:=qmP (fun es=>es.length=n) (fun es e x h=>by rw[qqp];exact h) j 0 _ (by simp)
  have hnr : ∀y∈qam (mvE acc (fDa frm upto)) 0 (List.replicate n 0) j,w64 y=y:=qmP (fun es=>∀y∈es,w64 y=y) (fun es e x h=>qyw h) j 0 _ (fun y hy=>by rw[(List.mem_replicate.1 hy).2];rfl)
  generalize qam (mvE acc (fDa frm upto)) 0 (List.replicate n 0) j=fs at *
  have lp:=fun k fr H => @qwP T fs n hlen (by omega) (by omega) hnr k fr H
  have hpl:(qbS 0 fs).length=n:=by rw[qmX,hlen]
  simp[qiC,Fr.ofArgs,e1,e2,w1,w2,g1,g2,g3,qA6,qsn,qf7,e3,↓qp6,↓qpY,qqg,Fr.only];simp only[qfI,List.map_replicate] at e4;refine (congrArg (fun z=>bo z _) e4).trans ?_
  simp[qiS];refine (lp _ _ _ (by simp[gc,Fr.keep,qae,qac,qab,PV.refs,qad,gcH,qag,Obj.refs,PV.ren,Obj.ren,Heap.obj,Fr.ren,gh,zzd])).trans ?_
  have ht:((qbS 0 fs).map I).take n=(qbS 0 fs).map I:=List.take_of_length_le (by simp[hpl])
  simp[fin,runG,hpl,ht]
 ·have hd:qhN j acc frm upto=[]:=by rw[qhN,if_neg hok]
  rw[hd];simp only[qit,zzf,zzq] at hok;have w1:qbX frm=true→qbX upto=true→IntKind.i64.wrap (upto-frm)=upto-frm:=by
   intro a b;simp[qbX] at a b;exact wrI (by omega) (by omega)
  obtain⟨a,ha⟩ : ∃a,qbX frm=a:=⟨_,rfl⟩;obtain⟨b,hb⟩ : ∃b,qbX upto=b:=⟨_,rfl⟩;rw[ha] at e1 hok w1;rw[hb] at e2 hok w1;cases a<;>cases b<;>simp only[forall_const,zzg,false_imp_iff] at w1
  all_goals simp[qiC,Fr.ofArgs,e1,e2]
  repeat' (refine qbV (fun h => ?_) (fun h => ?_)<;>(try simp at h)<;>(try simp[h,w1]))
  all_goals (simp at hok;omega)
def fDR (acc frm:Int) (_:Nat) (es:List Int) (e:AEntry):List Int:=qcd (dOf frm e.Value) (qlr acc e) es
def dly (j:List AEntry) (acc frm upto:Int):List Int:=if qit frm upto=true then qam (fDR acc frm) 0 (zer frm upto) j else []
theorem qqR {acc frm:Int} : ∀(j:List AEntry) (i:Nat) (es:List Int),(qam (fDR acc frm) i es j).length=es.length
 | [],_,_=>rfl
 |e::j,i,es=>by rw[qam,qqR j];exact qqm _ _ _
theorem qtt : ∀(l:List Int) (s:Int),∀y∈qbS s l,w64 y=y
 | [],_,y,h=>by simp[qbS] at h
 |x::l,s,y,h=>by
  simp only[qbS,List.mem_cons] at h;rcases h with rfl|h
  ·exact qkB _
  ·exact qtt l _ y h
theorem qpB (acc frm upto:Int) (e:AEntry) (hv:e.Value≤upto) (N:Nat) (hk:dOf frm e.Value<N) : ∀(l:List ALeg) (i:Nat) (es:List Int),es.length=N→qbS 0 (qam (mvL acc (fDa frm upto) e) i es l)=qcd (dOf frm e.Value) (qam (qcs acc) i 0 l) (qbS 0 es)
 | [],_,es,h=>by rw[qam,qam,qp7 _ _ (qtt _ _)]
 |x::l,i,es,h=>by
  rw[qam,qam];by_cases ha:x.Account=acc
  ·have hke:dOf frm e.Value<es.length:=by omega
   have e1:mvL acc (fDa frm upto) e i es x=es.set (dOf frm e.Value) (w64 (es[dOf frm e.Value] + -x.Amount)):=by
    rw[mvL,if_pos ha,fDa,if_pos hv,zze hke];rfl
   have e2:qcs acc i 0 x=w64 (-x.Amount+0):=by
    rw[qcs,if_pos (by simpa using ha)];congr 1;omega
   rw[e1,qpB acc frm upto e hv N hk l (i+1) _ (by simpa using h),qrj _ _ _ _ hke,qoa,e2,qnh]
   rfl
  ·have e1:mvL acc (fDa frm upto) e i es x=es:=by rw[mvL,if_neg ha]
   have e2:qcs acc i 0 x=0:=by rw[qcs,if_neg (by simpa using ha)]
   rw[e1,qpB acc frm upto e hv N hk l (i+1) _ h,e2]
theorem qvU (acc frm upto:Int) (N:Nat) (hN:(N:Int)=upto-frm+1) (h0:frm≤upto) (e:AEntry) (i:Nat) (es:List Int) (h:es.length=N):qbS 0 (mvE acc (fDa frm upto) i es e)=fDR acc frm i (qbS 0 es) e:=by
 unfold mvE fDR qlr;by_cases hv:e.Value≤upto
 ·exact qpB acc frm upto e hv N (by unfold dOf;omega) _ _ _ h
 ·have : ∀(l:List ALeg) (i:Nat),qam (mvL acc (fDa frm upto) e) i es l=es:=by
   intro l;induction l with
   |nil=>intro _;rfl
   |cons x l ih =>
    intro i;have e1:mvL acc (fDa frm upto) e i es x=es:=by
     simp[mvL,fDa,hv]
    rw[qam,e1,ih]
  rw[this,qva _ _ _ (by rw[qmX,h];unfold dOf;omega)]
theorem qrY (acc frm upto:Int) (N:Nat) (hN:(N:Int)=upto-frm+1) (h0:frm≤upto) : ∀(j:List AEntry) (i:Nat) (es:List Int),es.length=N→qbS 0 (qam (mvE acc (fDa frm upto)) i es j)=qam (fDR acc frm) i (qbS 0 es) j
 | [],_,_,_=>rfl
 |e::j,i,es,h=>by
  have hl:(mvE acc (fDa frm upto) i es e).length=N:=qmP (fun es=>es.length=N) (fun es e x h=>by rw[qqp];exact h) [e] i es h
  rw[qam,qam,qrY acc frm upto N hN h0 j (i+1) _ hl,qvU acc frm upto N hN h0 e i es h]
theorem qwJ (j:List AEntry) (acc frm upto:Int):qhN j acc frm upto=dly j acc frm upto:=by
 unfold qhN dly;split
 ·rename_i hok;simp only[qit,qbX,zzf,zzq] at hok;obtain⟨⟨h1a,h1b⟩,⟨h2a,h2b⟩,h3,h4⟩:=hok;rw[qrY acc frm upto (upto-frm+1).toNat (by omega) h3 j 0 _ (by simp[zer]),zer,qrZ]
 ·rfl
theorem qBS (j:List AEntry) (acc frm upto:Int):(dly j acc frm upto).length≤4000:=by
 unfold dly;split
 ·rename_i hok;simp only[qit,qbX,zzf,zzq] at hok;rw[qqR,zer,List.length_replicate];omega
 ·simp
theorem qBK (T:Tab) (hT:HU T) (hV:HV T) (j:List AEntry) (t:Bool) (acc frm upto:Int) (hn:j.length≤maxLen) (ho : ∀e∈j,e.Legs.l.length≤maxLen):T.val 880 [.l (K1 10) (j.map AEntry.dv) t,I acc,I frm,I upto]=some (.d (.l K0 ((dly j acc frm upto).map I) false),true):=by
 rw[qCC T hT hV j t acc frm upto hn ho,qwJ]
end Go.Sim
end
section
namespace Go.Sim
set_option maxRecDepth 10000
set_option maxHeartbeats 4000000
theorem qEy (T:Tab) (hV:HV T) (n:Int):T.val 884 [I n]=some (.d (.a [I 2,I n]),false):=by
 rw[qaf T (hV 884 qky rfl) rfl];simp[qky,Fr.ofArgs,qaA,qaE,qaD,qay,putAt,mkA,qas]
theorem qAd (T:Tab) (hV:HV T) (n:Int):T.val 885 [I n]=some (.d (.a [I 1,I n]),false):=by
 rw[qaf T (hV 885 qjY rfl) rfl];simp[qjY,Fr.ofArgs,qaA,qaE,qaD,qay,putAt,mkA,qas]
def wth (n b:Int):Bool:=decide (-b≤n)&&decide (n≤b)
def V2 (p:Int×Int):DV:=.a [I p.1,I p.2]
abbrev MA:Int:=1000000000000
noncomputable def qhF (b:ABooks) (a:AAccount) (id day amount:Int):List Int:=[ofR b.Journal.l id,qgx (dly b.Journal.l id (max (mst day) a.Opened) day),(qhG b.Journal.l id (mst day) day).1,amount]
noncomputable def qca (b:ABooks) (id day amount:Int):List (Int×Int)×Int:=match qcE b id with
 |none=>([],11)
 |some a=>if (qbX day&&qhu b id day)=true then (if ((qhF b a id day amount).all fun n=>wth n MA)=true then ((qhF b a id day amount).map (fun n=>(2,n))++[(1,qhR b.Journal.l id (mst day) day),(1,w64 (day-a.Opened)),(4,day)],0) else ([],6)) else ([],16)
attribute [local simp ↓ 2000] qE0
theorem qDp (T:Tab) (a:AAccount) (day amount _frm now low vol cnt:Int) (l:List Int) (hn:l.length≤maxLen) {k:KC (PV×Bool)} {r:Option (PV×Bool)} {fr:Fr} {H:Heap}
  (hr : ∀fr H,fr.get 8 = .d (.l (K1 2) [] true)→fr.get 9 = .d (I 6)→qaz fr=[]→k .ret fr H=r)
  (h0:gc [2,3,10,13,14,16,18,103,104,105] 0 ⟨fr,H⟩=⟨[(105,.d (I 0)),(104,.d (I l.length)),(103,.r 0 K0 0 l.length true),(18,.d (I cnt)),(16,.d (I vol)),(14,.d (I low)),(13,.d (I now)),(10,.p 1 0 0),(3,.d (I amount)),(2,.d (I day))],[some (.sl K0 0 (l.map I)),some (.box (K1 7) (.d a.dv))]⟩) :
  kC T.env 0 fr H (.h (.loop [2,3,10,13,14,16,18,103,104,105] qmf,k))=brn (l.all fun n=>wth n MA) (.h (k (.exit 3) [(106,.d (.b false)),(105,.d (I l.length)),(104,.d (I l.length)),(103,.r 0 K0 0 l.length true),(18,.d (I cnt)),(16,.d (I vol)),(14,.d (I low)),(13,.d (I now)),(10,.p 1 0 0),(3,.d (I amount)),(2,.d (I day))] [some (.sl K0 0 (l.map I)),some (.box (K1 7) (.d a.dv))],r)):=by
 have hm:=mxl
 rw[qcH l (fun i _=>⟨[(105,.d (I i)),(104,.d (I l.length)),(103,.r 0 K0 0 l.length true),(18,.d (I cnt)),(16,.d (I vol)),(14,.d (I low)),(13,.d (I now)),(10,.p 1 0 0),(3,.d (I amount)),(2,.d (I day))],[some (.sl K0 0 (l.map I)),some (.box (K1 7) (.d a.dv))]⟩) (fun _ _=>True) (fun i _ x c=>if wth x MA=true then c () else r) (fun _=>k (.exit 3) [(106,.d (.b false)),(105,.d (I l.length)),(104,.d (I l.length)),(103,.r 0 K0 0 l.length true),(18,.d (I cnt)),(16,.d (I vol)),(14,.d (I low)),(13,.d (I now)),(10,.p 1 0 0),(3,.d (I amount)),(2,.d (I day))] [some (.sl K0 0 (l.map I)),some (.box (K1 7) (.d a.dv))]) ?_ ?_ h0 trivial]
 ·rw[qnu (fun n=>wth n MA) r]
  ·cases l.all fun n=>wth n MA<;>rfl
  ·exact fun _ _ _ _=>rfl
 ·intro B _ _ _;simp[qmf]
 ·intro B _ i _ hi _ c hc;have h1:(i:Int)<l.length:=by omega
  have h3:=wr1 (i:=i) (by omega)
  have hw:wth l[i] MA=(decide (-1000000000000≤l[i])&&decide (l[i]≤1000000000000)):=rfl
  rw[hw];simp[qmf,h1,hi,↓qin,↓qh1];repeat' (refine qbV (fun h => ?_) (fun h => ?_)<;>(try simp at h)<;>(try simp[h,h3]))
  all_goals first
   | (rw[if_neg (by simp;omega)];exact hr _ _ (by simp[Fr.get]) (by simp[Fr.get]) (by simp[qaz,gh]))
   | (rw[if_pos (by simp;omega)];exact hc () _ _ trivial (by simp[gc,Fr.keep,qae,qac,qab,PV.refs,PV.refsL,qad,gcH,qag,Obj.refs,PV.ren,PV.renL,Obj.ren,Heap.obj,Fr.ren,gh,zzd]))
   |exact hr _ _ (by simp[Fr.get]) (by simp[Fr.get]) (by simp[qaz,gh])
   |exact hc () _ _ trivial (by simp[gc,Fr.keep,qae,qac,qab,PV.refs,qad,gcH,qag,Obj.refs,PV.ren,Obj.ren,Heap.obj,Fr.ren,gh,zzd])
theorem qBd (T:Tab) (hU:HU T) (hV:HV T) (b:ABooks) (id day amount:Int) (hb:b.ok):T.val 801 [b.dv,I id,I day,I amount]=some (.t [.d (.l (K1 2) ((qca b id day amount).1.map V2) (qca b id day amount).1.isEmpty),.d (I (qca b id day amount).2)],false):=by
 rw[qaf T (hV 801 qg7 rfl) rfl];have e:=qlu T hU b id hb
 have e1:=qkr T hV day
 have e2:=quE T hV hU b id day hb
 unfold qca;cases hf:qcE b id with
 |none =>
  rw[hf] at e;simp only[Option.getD_none,Option.isSome_none] at e;simp[qg7,Fr.ofArgs,e,qbb,pur,qbO]
 |some a =>
  rw[hf] at e;simp only[Option.getD_some,Option.isSome_some] at e;obtain⟨v,hv⟩ : ∃v,qbX day=v:=⟨_,rfl⟩;obtain⟨q,hq⟩ : ∃q,qhu b id day=q:=⟨_,rfl⟩;rw[hv] at e1;rw[hq] at e2;simp only[hv,hq];cases v with
  |false=>simp[qg7,Fr.ofArgs,e,e1,qbb,pur,qbO]
  |true =>
   cases q with
   |false=>simp[qg7,Fr.ofArgs,e,e1,e2,qbb,pur,qbO]
   |true =>
    have hj:=(hb.2.2.2.2.2.2.1)
    have ho : ∀e∈b.Journal.l,e.Legs.l.length≤maxLen:=fun e he=>((hj.2 e he).2.2.2.2.2.2.2.2.1).1
    have e3:=qBI T hV day hv
    have e4:=qAo T hU hV b.Journal.l b.Journal.t id (mst day) day hj.1 ho
    have e5:=qBK T hU hV b.Journal.l b.Journal.t id (max (mst day) a.Opened) day hj.1 ho
    have e6 : ∀x r,dly b.Journal.l id (max (mst day) a.Opened) day=x::r→T.val 881 [.l K0 ((x::r).map I) false]=some (.d (I (qgx (x::r))),false):=fun x r h=>qEH T hV x r false (by have:=qBS b.Journal.l id (max (mst day) a.Opened) day;rw[h] at this;simp at this;have:maxLen=9223372036854775807:=rfl;omega)
    have e7:=qCc T hU b.Journal.l b.Journal.t id hj.1 ho
    rw[qEQ] at e7;have c1:=fun n=>qEy T hV n
    have c2:=fun n=>qAd T hV n
    have lp0:=fun now low vol k fr H => @qEk T hV a b.Journal.l b.Journal.t id (mst day) day amount now low vol hj.1 hj.2 k fr H
    obtain⟨am,ham⟩ : ∃l,qhF b a id day amount=l:=⟨_,rfl⟩;obtain⟨ok,hok⟩ : ∃q,(am.all fun n=>wth n MA)=q:=⟨_,rfl⟩
    have hl:am.length=4:=by rw[←ham];rfl
    have lp:=fun now low vol cnt k r fr H => @qDp T a day amount (mst day) now low vol cnt am (by rw[hl];decide) k r fr H
    simp only[hok] at lp;simp only[ham,hok];cases hd:dly b.Journal.l id (max (mst day) a.Opened) day with
    |nil =>
     rw[hd] at e5;simp only[List.map_nil] at e5;simp[qg7,Fr.ofArgs,e,e1,e2,e3,e4,e5,e7,↓qfu];refine (lp0 (ofR b.Journal.l id) 0 (qhG b.Journal.l id (mst day) day).1 _ _ _ (by simp[gc,Fr.keep,qae,qac,qab,PV.refs,qad,gcH,qag,Obj.refs,PV.ren,Obj.ren,Heap.obj,Fr.ren,gh,zzd])).trans ?_
     simp[qmj,qlB,qlZ];refine (lp (ofR b.Journal.l id) 0 (qhG b.Journal.l id (mst day) day).1 (qhR b.Journal.l id (mst day) day) _ (some (.t [.d (.l (K1 2) [] true),.d (I 6)],false)) _ _ ?_ ?_).trans ?_
     ·intro fr H h8 h9 hg;simp[h8,h9,hg,qcw,qbb,pur,qbO]
     ·simp[gc,Fr.keep,qae,qac,qab,PV.refs,qad,gcH,qag,Obj.refs,PV.ren,Obj.ren,Heap.obj,Fr.ren,gh,zzd,←ham,qhF,hd,qgx,qhR]
     ·refine qbV (fun h => ?_) (fun h => ?_)
      ·subst h;simp[↓qa4,↓qa3,↓qaR,↓qaT,qaU,↓qaS,↓qbe,↓qbc,↓qaP,↓qaZ,↓qa2,qaK,writeS,touchS,qak,qax,chg,qaI,qaF,qau,qaH,PV.refs,IOp.okD,Nat.testBit,↓quC,↓qqP,qal,c1,c2,qaA,qaE,qaD,qay,putAt,mkA,qas,qmj,qlB,qlZ,qbb,pur,qbO];simp[←ham,qhF,hd,qgx,V2,w64,qhR]
      ·subst h;simp
    |cons x r =>
     have e6':=e6 x r hd
     rw[hd] at e5;simp only[zzu] at e5 e6';have hpos:(0:Int)<(r.length:Int)+1:=by omega
     simp[qg7,Fr.ofArgs,e,e1,e2,e3,e4,e5,e6',e7,↓qfu,hpos];refine (lp0 (ofR b.Journal.l id) (qgx (x::r)) (qhG b.Journal.l id (mst day) day).1 _ _ _ (by simp[gc,Fr.keep,qae,qac,qab,PV.refs,qad,gcH,qag,Obj.refs,PV.ren,Obj.ren,Heap.obj,Fr.ren,gh,zzd])).trans ?_
     simp[qmj,qlB,qlZ];refine (lp (ofR b.Journal.l id) (qgx (x::r)) (qhG b.Journal.l id (mst day) day).1 (qhR b.Journal.l id (mst day) day) _ (some (.t [.d (.l (K1 2) [] true),.d (I 6)],false)) _ _ ?_ ?_).trans ?_
     ·intro fr H h8 h9 hg;simp[h8,h9,hg,qcw,qbb,pur,qbO]
     ·simp[gc,Fr.keep,qae,qac,qab,PV.refs,qad,gcH,qag,Obj.refs,PV.ren,Obj.ren,Heap.obj,Fr.ren,gh,zzd,←ham,qhF,hd,qgx,qhR]
     ·refine qbV (fun h => ?_) (fun h => ?_)
      ·subst h;simp[↓qa4,↓qa3,↓qaR,↓qaT,qaU,↓qaS,↓qbe,↓qbc,↓qaP,↓qaZ,↓qa2,qaK,writeS,touchS,qak,qax,chg,qaI,qaF,qau,qaH,PV.refs,IOp.okD,Nat.testBit,↓quC,↓qqP,qal,c1,c2,qaA,qaE,qaD,qay,putAt,mkA,qas,qmj,qlB,qlZ,qbb,pur,qbO];simp[←ham,qhF,hd,qgx,V2,w64,qhR]
      ·subst h;simp
end Go.Sim
end
section
namespace Go.Sim
set_option maxRecDepth 10000
set_option maxHeartbeats 4000000
end Go.Sim
end
section
namespace Go.Sim
set_option maxRecDepth 10000
set_option maxHeartbeats 4000000
theorem qqX (id frm upto:Int) : ∀(l:List AEntry) (i:Nat) (n:Int),(-9223372036854775808≤n∧n<9223372036854775808)→-9223372036854775808≤qam (qgi id frm upto) i n l∧qam (qgi id frm upto) i n l<9223372036854775808
 | [],_,_,h=>h
 |x::l,i,n,h=>by
  rw[qam];refine qqX id frm upto l (i+1) _ ?_;unfold qgi;split
  ·exact qjL _
  ·exact h
theorem qBQ (b:ABooks) (id day amount:Int) : ∀p∈(qca b id day amount).1,-9223372036854775808≤p.2∧p.2<9223372036854775808:=by
 intro p hp;unfold qca at hp;split at hp
 ·cases hp
 ·split at hp
  ·split at hp
   ·rename_i a _ hv ha;simp only[List.mem_append,List.mem_map,List.mem_cons,List.not_mem_nil,or_false] at hp;rcases hp with ⟨n,hn,rfl⟩|rfl|rfl|rfl
    ·have:=List.all_eq_true.1 ha n hn
     simp only[wth,MA,zzf,zzq] at this;simp only;omega
    ·exact qqX id _ _ _ 0 0 (by decide)
    ·exact qjL _
    ·have:0≤day∧day≤73048:=by
      simp only[zzf] at hv
      have:=hv.1
      unfold qbX at this;simp only[zzf,zzq] at this;omega
     simp only;omega
   ·cases hp
  ·cases hp
theorem qrS {l:List AProduct} {nm:List UInt8} {day:Int} {p:AProduct} (h:atP l nm day=some p):p∈l:=by
 unfold atP at h;split at h
 ·cases h
 ·exact List.mem_of_getElem? h
structure HEv (T:Tab):Prop where
 hT:HT T
 hU:HU T
 hV:HV T
 hC:HC T
 hW:HWd T
 hA:HA T
 vars : ∃(vs:List AVar) (t o:Bool),T.val 371 []=some (.d (.l (K1 2) (vs.map AVar.dv) t),o)∧vs.length≤1000∧T.val 945 [.l (K1 2) (vs.map AVar.dv) t]=some (.d (I 0),false)
theorem quf (T:Tab) (h:HEv T) (x:AExpr) (hx:x.ok) (b:ABooks) (id day amount:Int) (te:Bool) : ∃(V:DV) (o:Bool) (q:AValue×Int),T.val 371 []=some (.d V,o)∧T.val 916 [x.dv,V,.l (K1 2) ((qca b id day amount).1.map V2) te]=some (qbi q):=by
 obtain⟨vs,t,o,e1,hn,e2⟩:=h.vars;have hm:(qca b id day amount).1.map V2=((qca b id day amount).1.map fun p=>(⟨p.1,p.2⟩:AValue)).map AValue.dv:=by rw[List.map_map];rfl
 obtain⟨q,hq⟩:=qBj T h.hT h.hA (qEU T h.hT h.hC h.hW) vs ((qca b id day amount).1.map fun p=>(⟨p.1,p.2⟩:AValue)) t te hn (fun e he=>by
  obtain⟨p,hp,rfl⟩:=List.mem_map.1 he;exact qBQ b id day amount p hp) e2 x hx
 exact⟨_,o,q,e1,by rw[hm];exact hq⟩
end Go.Sim
end
section
namespace Go.Sim
set_option maxRecDepth 10000
set_option maxHeartbeats 4000000
def qbN (ev:Int) (f:AFee):Bool:=f.Event==ev
theorem qEF (T:Tab) (h8:H8 T) (hc:HCl T 956 (K1 4) 56) (l:List AFee) (t:Bool) (ev:Int) (hn:l.length≤1000) (ho : ∀f∈l,f.ok) {k:KC (PV×Bool)} {r:Option (PV×Bool)} {fr:Fr} {H:Heap}
  (he:k (.exit 0) [(12,.d (.b false)),(11,.d (I l.length)),(10,.d (I l.length)),(9,.d (.l (K1 10) (l.map AFee.dv) t)),(5,qav (K1 10) ((l.filter (qbN ev)).map AFee.dv)),(1,.d (I ev))] (qbU (K1 10) ((l.filter (qbN ev)).map AFee.dv))=r)
  (h0:gc [1,5,9,10,11] 0 ⟨fr,H⟩=⟨[(11,.d (I 0)),(10,.d (I l.length)),(9,.d (.l (K1 10) (l.map AFee.dv) t)),(5,qav (K1 10) []),(1,.d (I ev))],qbU (K1 10) []⟩) :
  kC T.env 0 fr H (.h (.loop [1,5,9,10,11] qh8,k))=r:=by
 refine qcN (fun p:Nat×List AFee=>⟨[(11,.d (I p.1)),(10,.d (I l.length)),(9,.d (.l (K1 10) (l.map AFee.dv) t)),(5,qav (K1 10) (p.2.map AFee.dv)),(1,.d (I ev))],qbU (K1 10) (p.2.map AFee.dv)⟩) (fun p=>p.1≤l.length∧p.2=(l.take p.1).filter (qbN ev)) (fun p=>l.length-p.1) ?_ (0,[]) ⟨Nat.zero_le _,rfl⟩ h0
 rintro B-⟨i,o⟩ ⟨hi,ha⟩ hx;simp only at hi ha hx⊢;by_cases hlt:i<l.length
 ·have h1:(i:Int)<l.length:=by omega
  have h3:=wr1 (i:=i) (by omega)
  have hol:o.length≤i:=by rw[ha];exact Nat.le_trans (List.length_filter_le _ _) (by simp;omega)
  have hst:(l.take (i+1)).filter (qbN ev)=if qbN ev l[i]=true then o++[l[i]] else o:=by
   rw[List.take_succ_eq_append_getElem hlt,List.filter_append,←ha,List.filter_cons];split<;>simp
  obtain⟨f,hf⟩ : ∃f,l[i]=f:=⟨_,rfl⟩;have hfo:f.ok:=by rw[←hf];exact ho _ (zzs hlt)
  rw[hf] at hst;have e0:=qti T h8 hc _ f.When (zzt _) (hfo.2.2.1)
  have p0:=fun (y:PV→Option (PV×Bool))=>qtm (y:=y) (n:=10) (c:=2) (v:=f.dv) (w:=f.When.dv) rfl rfl rfl
  have e1:=qti T h8 hc _ f.Amount (zzt _) (hfo.2.2.2)
  have p1:=fun (y:PV→Option (PV×Bool))=>qtm (y:=y) (n:=10) (c:=6) (v:=f.dv) (w:=f.Amount.dv) rfl rfl rfl
  by_cases hv:f.Event=ev
  ·rw[if_pos (show qbN ev f=true by simp[qbN,hv])] at hst
   have hx':=fun hm=>hx (i+1,o++[f]) ⟨by show i+1≤l.length;omega,hst.symm⟩ hm
   simp only[List.map_append,zzu,List.map_nil] at hx';have hx2:=hx' (by omega)
   clear hx' hx
   generalize ho':o.map AFee.dv=od at *
   have hod:od.length≤i:=by rw[←ho',zzo];exact hol
   cases od with
   |nil =>
    simp only[qav,qbU,List.nil_append] at hx2⊢;simp[qh8,h1,hlt,h3,hf,hv,↓qa4,↓qa3,↓qaR,↓qbf,↓qaT,qaU,↓qaP,↓qbg,↓qa2,↓qbq,qaK,writeS,touchS,qak,qax,chg,qaI,qaF,qau,qaH,PV.refs,IOp.okD,Nat.testBit,e0,↓p0,e1,↓p1,qat,qde];exact hx2 _ _ (by simp[gc,Fr.keep,qae,qac,qab,PV.refs,qad,gcH,qag,Obj.refs,PV.ren,Obj.ren,Heap.obj,Fr.ren,gh,zzd,AFee.dv])
   |cons x od =>
    simp only[qav,qbU,List.cons_append] at hx2⊢;simp only[zzn] at hod;have h5:(od.length+1+1)*136≤140737488355328:=by omega
    have ht:od.take od.length=od:=List.take_of_length_le (by simp)
    simp[qh8,h1,hlt,h3,hf,hv,h5,ht,↓qa4,↓qa3,↓qaR,↓qbf,↓qaT,qaU,↓qaP,↓qbg,↓qa2,↓qbq,qaK,writeS,touchS,qak,qax,chg,qaI,qaF,qau,qaH,PV.refs,IOp.okD,Nat.testBit,e0,↓p0,e1,↓p1,qat,qde];exact hx2 _ _ (by simp[gc,Fr.keep,qae,qac,qab,PV.refs,qad,gcH,qag,Obj.refs,PV.ren,Obj.ren,Heap.obj,Fr.ren,gh,zzd,AFee.dv])
  ·rw[if_neg (show ¬qbN ev f=true by simp[qbN,hv])] at hst
   have hx2:=hx (i+1,o) ⟨by show i+1≤l.length;omega,hst.symm⟩ (by show l.length-(i+1)<l.length-i;omega)
   clear hx
   have gv:=qai hv
   generalize ho':o.map AFee.dv=od at *
   cases od with
   |nil =>
    simp only[qav,qbU] at hx2⊢;simp[qh8,h1,hlt,h3,hf,gv];exact hx2 _ _ (by simp[gc,Fr.keep,qae,qac,qab,PV.refs,gcH,PV.ren,Obj.ren,Heap.obj,Fr.ren,gh,AFee.dv])
   |cons x od =>
    simp only[qav,qbU] at hx2⊢;simp[qh8,h1,hlt,h3,hf,gv];exact hx2 _ _ (by simp[gc,Fr.keep,qae,qac,qab,PV.refs,qad,gcH,qag,Obj.refs,PV.ren,Obj.ren,Heap.obj,Fr.ren,gh,zzd,AFee.dv])
 ·have:i=l.length:=by omega
  subst this;rw[List.take_length] at ha;subst ha;have h1 : ¬((l.length:Int)<l.length):=by omega
  simp[qh8];exact he
theorem qyf (T:Tab) (h8:H8 T) (hc:HCl T 956 (K1 4) 56) (p:AProduct) (ev:Int) (hn:p.Fees.l.length≤1000) (ho : ∀f∈p.Fees.l,f.ok):T.val 878 [p.dv,I ev]=some (.d (.l (K1 10) ((p.Fees.l.filter (qbN ev)).map AFee.dv) false),true):=by
 have lp:=fun k r fr H => @qEF T h8 hc p.Fees.l p.Fees.t ev hn ho k r fr H
 rw[qaf T (h8 878 qi1 rfl) rfl];cases hl:p.Fees.l.filter (qbN ev) with
 |nil =>
  rw[hl] at lp;simp[qi1,Fr.ofArgs];refine lp _ _ _ _ ?_ (by simp[gc,Fr.keep,qae,qac,qab,PV.refs,gcH,PV.ren,Obj.ren,Heap.obj,Fr.ren,gh,qav,qbU])
  simp[qav,qbU]
 |cons x o =>
  rw[hl] at lp;simp[qi1,Fr.ofArgs];refine lp _ _ _ _ ?_ (by simp[gc,Fr.keep,qae,qac,qab,PV.refs,gcH,PV.ren,Obj.ren,Heap.obj,Fr.ren,gh,qav,qbU])
  have ht:(o.map AFee.dv).take o.length=o.map AFee.dv:=List.take_of_length_le (by simp)
  simp[qav,qbU,ht]
noncomputable def qcG (b:ABooks) (id day ev am:Int):List AFee×Int :=
 if (qcE b id).isSome=false then ([],11) else if qbX day=false∨qhu b id day=false then ([],16) else if ev<1∨4<ev∨am<0∨1000000000000<am then ([],1)
 else match qeX b id day with|none=>([],11)|some p=>(p.Fees.l.filter (qbN ev),0)
theorem qC5 (T:Tab) (h:HEv T) (h8:H8 T) (hc:HCl T 956 (K1 4) 56) (b:ABooks) (hb:b.ok) (hf : ∀p∈b.Products.l,p.Fees.l.length≤1000) (id day ev am:Int) :
  ∃t,T.val 800 [b.dv,I id,I day,I ev,I am]=some (.t [.d (.l (K1 10) ((qcG b id day ev am).1.map AFee.dv) t),.d (I (qcG b id day ev am).2)],false):=by
 have e12:=qlu T h.hU b id hb
 have e22:=qkr T h.hV day
 have e39:=quE T h.hV h.hU b id day hb
 have e24:=qwh T h.hU b id day hb
 have hp : ∀p,qeX b id day=some p→p∈b.Products.l:=by
  intro p hp;unfold qeX at hp;split at hp
  ·exact qrS hp
  ·cases hp
 have e878 : ∀p,qeX b id day=some p→T.val 878 [p.dv,I ev]=some (.d (.l (K1 10) ((p.Fees.l.filter (qbN ev)).map AFee.dv) false),true):=fun p h'=>qyf T h8 hc p ev (hf p (hp p h')) (hb.2.2.2.2.1.2 p (hp p h')).2.2.2.2.2.2.2.2.2.1.2
 unfold qcG;generalize (qcE b id).getD .zero=acc at *
 generalize qhu b id day=ac at *
 generalize qbX day=vd at *
 generalize qeX b id day=pr at *
 rw[qaf T (h8 800 qfC rfl) rfl];cases hs:(qcE b id).isSome with
 |false =>
  rw[hs] at e12;refine⟨true,?_⟩;simp[qfC,Fr.ofArgs,e12]
 |true =>
  rw[hs] at e12;rw[if_neg (by simp)]
  cases vd with
  |false =>
   rw[if_pos (.inl rfl)];refine⟨true,?_⟩;simp[qfC,Fr.ofArgs,e12,e22]
  |true =>
   cases ac with
   |false =>
    rw[if_pos (.inr rfl)];refine⟨true,?_⟩;simp[qfC,Fr.ofArgs,e12,e22,e39]
   |true =>
    rw[if_neg (by simp)]
    by_cases h1:ev<1
    ·rw[if_pos (.inl h1)];refine⟨true,?_⟩;simp[qfC,Fr.ofArgs,e12,e22,e39,h1]
    by_cases h2:4<ev
    ·rw[if_pos (.inr (.inl h2))];refine⟨true,?_⟩;simp[qfC,Fr.ofArgs,e12,e22,e39,h1,h2]
    by_cases h3:am<0
    ·rw[if_pos (.inr (.inr (.inl h3)))];refine⟨true,?_⟩;simp[qfC,Fr.ofArgs,e12,e22,e39,h1,h2,h3]
    by_cases h4:1000000000000<am
    ·rw[if_pos (.inr (.inr (.inr h4)))];refine⟨true,?_⟩;simp[qfC,Fr.ofArgs,e12,e22,e39,h1,h2,h3,h4]
    rw[if_neg (by omega)]
    cases pr with
    |none =>
     refine⟨true,?_⟩;simp[qfC,Fr.ofArgs,e12,e22,e39,h1,h2,h3,h4,e24]
    |some p =>
     have e:=e878 p rfl
     simp only[Option.getD_some,Option.isSome_some] at e24;refine⟨false,?_⟩;show _=some (PV.t [.d (.l (K1 10) ((p.Fees.l.filter (qbN ev)).map AFee.dv) false),.d (I 0)],false)
     generalize (p.Fees.l.filter (qbN ev)).map AFee.dv=fl at *
     simp[qfC,Fr.ofArgs,e12,e22,e39,h1,h2,h3,h4,e24,e]
end Go.Sim
end
section
namespace Go.Sim
set_option maxRecDepth 10000
set_option maxHeartbeats 4000000
noncomputable def qiM (T:Tab) (E:DV) (f:AFee):Int×Int:=match T.val 802 [qeR f E] with|some (.t [.d (.i _ a),.d (.i _ e)],_)=>(a,e)|_=>(0,0)
theorem qvO {T:Tab} {E:DV} {f:AFee} {p:Int×Int} (h:T.val 802 [qeR f E]=some (two p)):T.val 802 [qeR f E]=some (two (qiM T E f)):=by
  have:qiM T E f=p:=by unfold qiM;rw[h];rfl
  rw[this];exact h
def chE (g:AFee→Int×Int) (f:AFee):List DV:=if 0<(g f).1 then [.a [.s f.Name,I (g f).1]] else []
def chL (g:AFee→Int×Int) (l:List AFee):List DV:=l.flatMap (chE g)
theorem qoP (g:AFee→Int×Int) : ∀l,(chL g l).length≤l.length
  | []=>zzt _
  |f::l=>by
    have:=qoP g l
    have h1:(chE g f).length≤1:=by unfold chE;split<;>simp
    show ((chE g f)++chL g l).length≤_
    rw[zzp,zzn];omega
theorem qwx (g:AFee→Int×Int) (l:List AFee) (i:Nat) (h:i<l.length):chL g (l.take (i+1))=chL g (l.take i)++chE g l[i]:=by
  unfold chL;rw[List.take_succ_eq_append_getElem h,List.flatMap_append];simp
theorem qEj (T:Tab) (l:List AFee) (t:Bool) (es:List DV) (te:Bool) (g:AFee→Int×Int) (hg : ∀f∈l,T.val 802 [qeR f (.l (K1 2) es te)]=some (two (g f))) (hn:l.length≤1000) {k:KC (PV×Bool)} {r:Option (PV×Bool)} {fr:Fr} {H:Heap}
    (he:qbQ (fun f=>(g f).2) l=0→k (.exit 0) [(51,.d (.b false)),(50,.d (I l.length)),(49,.d (I l.length)),(48,.d (.l (K1 10) (l.map AFee.dv) t)),(15,qav (K1 2) (chL g l)),(14,.d (.l (K1 2) es te))] (qbU (K1 2) (chL g l))=r)
    (hr:qbQ (fun f=>(g f).2) l≠0→∀fr J,fr.get 10 = .d (.l (K1 2) [] true)→fr.get 11 = .d (I (qbQ (fun f=>(g f).2) l))→qaz fr=[]→k .ret fr J=r)
    (h0:gc [14,15,48,49,50] 0 ⟨fr,H⟩=⟨[(50,.d (I 0)),(49,.d (I l.length)),(48,.d (.l (K1 10) (l.map AFee.dv) t)),(15,qav (K1 2) []),(14,.d (.l (K1 2) es te))],qbU (K1 2) []⟩) :
    kC T.env 0 fr H (.h (.loop [14,15,48,49,50] qgS,k))=r:=by
  refine qcN (fun i:Nat=>⟨[(50,.d (I i)),(49,.d (I l.length)),(48,.d (.l (K1 10) (l.map AFee.dv) t)),(15,qav (K1 2) (chL g (l.take i))),(14,.d (.l (K1 2) es te))],qbU (K1 2) (chL g (l.take i))⟩) (fun i=>i≤l.length∧∀v∈l.take i,(g v).2=0) (fun i=>l.length-i) ?_ 0 ⟨Nat.zero_le _,by simp⟩ (by rw[h0];rfl)
  rintro B-i ⟨hi,ha⟩ hx;by_cases hlt:i<l.length
  · have h1:(i:Int)<l.length:=by omega
    have h3:=wr1 (i:=i) (by omega)
    have e:=hg l[i] (zzs hlt)
    unfold two qeR at e;have hl:(chL g (l.take i)).length≤i:=Nat.le_trans (qoP _ _) (by simp;omega)
    by_cases hs:(g l[i]).2=0
    · have hx':=hx (i+1) ⟨by omega,by
        rw[List.take_succ_eq_append_getElem hlt];intro v hv;rcases List.mem_append.1 hv with hv|hv
        · exact ha v hv
        · rw[List.mem_singleton.1 hv];exact hs⟩ (by omega)
      rw[qwx g l i hlt] at hx';unfold chE at hx';rw[hs] at e;obtain⟨f,hf⟩ : ∃f,l[i]=f:=⟨_,rfl⟩;rw[hf] at e hx';generalize chL g (l.take i)=o at *
      by_cases hp:0<(g f).1
      · rw[if_pos hp] at hx'
        cases o with
        |nil =>
          simp only[qav,qbU,List.nil_append] at hx'⊢;simp[qgS,h1,hlt,h3,hf,e,hp,↓qaA,↓qaE,↓qaD,putAt,mkA,qal,qas,qat,qay,qcy,AFee.dv,qed,qbR,qcS,qde,qcl];exact hx' _ _ (by simp[gc,Fr.keep,qae,qac,qab,PV.refs,qad,gcH,qag,Obj.refs,PV.ren,Obj.ren,Heap.obj,Fr.ren,gh,zzd])
        |cons x o =>
          simp only[qav,qbU,List.cons_append] at hx'⊢;simp only[zzn] at hl;have h5:(o.length+1+1)*24≤140737488355328:=by omega
          have ht:o.take o.length=o:=List.take_of_length_le (by simp)
          simp[qgS,h1,hlt,h3,hf,h5,ht,e,hp,↓qaA,↓qaE,↓qaD,putAt,mkA,qal,qas,qat,qay,qcy,AFee.dv,qed,qbR,qcS,qde,qcl];exact hx' _ _ (by simp[gc,Fr.keep,qae,qac,qab,PV.refs,qad,gcH,qag,Obj.refs,PV.ren,Obj.ren,Heap.obj,Fr.ren,gh,zzd])
      · rw[if_neg hp,List.append_nil] at hx'
        cases o with
        |nil =>
          simp only[qav,qbU] at hx'⊢;simp[qgS,h1,hlt,h3,hf,e,hp,↓qaA,↓qaE,↓qaD,putAt,mkA,qal,qas,qat,AFee.dv,qed,qcS,qde,qcl];exact hx' _ _ (by simp[gc,Fr.keep,qae,qac,qab,PV.refs,gcH,PV.ren,Obj.ren,Heap.obj,Fr.ren,gh])
        |cons x o =>
          simp only[qav,qbU] at hx'⊢;simp[qgS,h1,hlt,h3,hf,e,hp,↓qaA,↓qaE,↓qaD,putAt,mkA,qal,qas,qat,AFee.dv,qed,qcS,qde,qcl];exact hx' _ _ (by simp[gc,Fr.keep,qae,qac,qab,PV.refs,qad,gcH,qag,Obj.refs,PV.ren,Obj.ren,Heap.obj,Fr.ren,gh,zzd])
    · have hf:qbQ (fun a=>(g a).2) l=(g l[i]).2:=by
        conv=>lhs;rw[qll l i hlt,qlk _ _ _ ha,qbQ,if_neg hs]
      rw[hf] at hr;have hr':=hr hs
      have gs:=qai hs
      generalize chL g (l.take i)=o at *
      cases o with
      |nil =>
        simp only[qav,qbU] at⊢;simp[qgS,h1,hlt,e,gs,bne,↓qaA,↓qaE,↓qaD,putAt,mkA,qal,qas,qat,AFee.dv,qed,qcS,qde,qcl];exact hr' _ _ (by simp[Fr.get]) (by simp[Fr.get]) (by simp[qaz,gh])
      |cons x o =>
        simp only[qav,qbU] at⊢;simp[qgS,h1,hlt,e,gs,bne,↓qaA,↓qaE,↓qaD,putAt,mkA,qal,qas,qat,AFee.dv,qed,qcS,qde,qcl];exact hr' _ _ (by simp[Fr.get]) (by simp[Fr.get]) (by simp[qaz,gh])
  · have:i=l.length:=by omega
    subst this;rw[List.take_length] at ha⊢;have he':=he ((qic _ _).2 ha)
    have h1 : ¬((l.length:Int)<l.length):=by omega
    simp[qgS];exact he'
theorem qzB {b:ABooks} {id day:Int} {p:AProduct} (hp:qeX b id day=some p):p∈b.Products.l:=by
  unfold qeX at hp;split at hp
  · exact qrS hp
  · cases hp
theorem qpP {b:ABooks} {id day ev am:Int}:(qcG b id day ev am).1=[]∨∃p∈b.Products.l,(qcG b id day ev am).1=p.Fees.l.filter (qbN ev):=by
  unfold qcG;split
  · exact .inl rfl
  split
  · exact .inl rfl
  split
  · exact .inl rfl
  cases hp:qeX b id day with
  |none=>exact .inl rfl
  |some p=>exact .inr ⟨p,qzB hp,rfl⟩
noncomputable def qmZ (T:Tab) (b:ABooks) (id day am:Int) (l:List AFee):List DV×Int :=
  if l=[] then ([],0) else if (qca b id day am).2=0 then
    (let g:=qiM T (.l (K1 2) ((qca b id day am).1.map V2) (qca b id day am).1.isEmpty)
     if qbQ (fun f=>(g f).2) l=0 then (chL g l,0) else ([],qbQ (fun f=>(g f).2) l))
  else ([],(qca b id day am).2)
noncomputable def qf0 (T:Tab) (b:ABooks) (id day ev am:Int):List DV×Int :=
  if (qcG b id day ev am).2=0 then qmZ T b id day am (qcG b id day ev am).1 else ([],(qcG b id day ev am).2)
theorem qvc (T:Tab) (h:HEv T) (h8:H8 T) (hc:HCl T 956 (K1 4) 56) (b:ABooks) (hb:b.ok) (hf : ∀p∈b.Products.l,p.Fees.l.length≤1000) (id day ev am:Int) :
    T.val 717 [b.dv,I id,I day,I ev,I am]=some (.t [.d (.l (K1 2) (qf0 T b id day ev am).1 (qf0 T b id day ev am).1.isEmpty),.d (I (qf0 T b id day ev am).2)],false):=by
  obtain⟨t0,e800⟩:=qC5 T h h8 hc b hb hf id day ev am;have e801:=qBd T h.hU h.hV b id day am hb
  have hfo : ∀f∈(qcG b id day ev am).1,f.ok:=by
    intro f hm;rcases qpP (b:=b) (id:=id) (day:=day) (ev:=ev) (am:=am) with e|⟨p,hp,e⟩
    · rw[e] at hm;cases hm
    · rw[e] at hm
      exact (hb.2.2.2.2.1.2 p hp).2.2.2.2.2.2.2.2.2.1.2 f (List.mem_filter.1 hm).1
  have hfl:(qcG b id day ev am).1.length≤1000:=by
    rcases qpP (b:=b) (id:=id) (day:=day) (ev:=ev) (am:=am) with e|⟨p,hp,e⟩
    · rw[e];exact Nat.zero_le _
    · rw[e];exact Nat.le_trans (List.length_filter_le _ _) (hf p hp)
  have hg : ∀f∈(qcG b id day ev am).1,T.val 802 [qeR f (.l (K1 2) ((qca b id day am).1.map V2) (qca b id day am).1.isEmpty)]=some (two (qiM T (.l (K1 2) ((qca b id day am).1.map V2) (qca b id day am).1.isEmpty) f)):=by
    intro f hm;have ho:=hfo f hm
    obtain⟨V,o,q,e1,e2⟩:=quf T h f.When ho.2.2.1 b id day am (qca b id day am).1.isEmpty;obtain⟨V',o',q',e3,e4⟩:=quf T h f.Amount ho.2.2.2 b id day am (qca b id day am).1.isEmpty;exact qvO (qEg T h8 _ (qy9 _ _) q q' (qvt T h8 f V _ _ o q e1 e2) (qvG T h8 f V' _ _ o' q' e3 e4))
  unfold qf0 qmZ;generalize qcG b id day ev am=fp at *
  obtain⟨l,e⟩:=fp;simp only at *
  generalize (qca b id day am).1.map V2=env at *
  generalize (qca b id day am).1.isEmpty=te at *
  generalize (qca b id day am).2=ee at *
  rw[qaf T (h8 717 qhh rfl) rfl];by_cases h0:e=0
  · rw[if_pos h0]
    by_cases hl:l=[]
    · rw[if_pos hl]
      subst hl;simp[qhh,Fr.ofArgs,e800,h0]
    · have l0:l.length≠0:=fun c=>hl (List.length_eq_zero_iff.1 c)
      have l1:((l.length:Int)==0)=false:=qai (by omega)
      have l2 : ¬((l.length:Int)=0):=by omega
      have l3:l.isEmpty=false:=by cases l with|nil=>exact absurd rfl hl|cons a l=>rfl
      rw[if_neg hl];by_cases h1:ee=0
      · rw[if_pos h1]
        have lp:=fun k r fr H => @qEj T l t0 env te _ hg hfl k r fr H
        try simp only at lp⊢
        generalize qiM T (.l (K1 2) env te)=g at *
        simp[qhh,Fr.ofArgs,e800,h0,l1,e801,h1];refine lp _ _ _ _ (fun hz => ?_) (fun hz fr J h10 h11 hgh => ?_) (by simp[gc,Fr.keep,qae,qac,qab,PV.refs,gcH,PV.ren,Obj.ren,Heap.obj,Fr.ren,gh,qav,qbU])
        · rw[if_pos hz]
          cases hcl:chL g l with
          |nil=>simp[qav,qbU]
          |cons x o =>
            have ht:o.take o.length=o:=List.take_of_length_le (by simp)
            simp[qav,qbU,ht,qbb,pur,qbO]
        · rw[if_neg hz]
          simp[h10,h11,hgh]
      · rw[if_neg h1]
        have g1:=qai h1
        simp[qhh,Fr.ofArgs,e800,h0,l1,e801,g1,bne]
  · rw[if_neg h0]
    have g0:=qai h0
    simp[qhh,Fr.ofArgs,e800,g0,bne]
end Go.Sim
end
section
namespace Go.Sim
set_option maxRecDepth 10000
set_option maxHeartbeats 4000000
def qb5 (ev:Int) (p:AProduct):AProduct:={ p with Fees:=⟨p.Fees.l.filter (qbN ev),(p.Fees.l.filter (qbN ev)).isEmpty⟩ }
def qgC (ev:Int) (t:Bool) (b:ABooks):ABooks:={ b with Products:=⟨b.Products.l.map (qb5 ev),t⟩ }
theorem qtj {α β γ:Type} (f:Nat→β→α→β) (g:γ→α) : ∀(l:List γ) (i:Nat) (b:β),qam f i b (l.map g)=qam (fun i b x=>f i b (g x)) i b l
 | [],_,_=>rfl
 |x::l,i,b=>by
  rw[zzu,qam,qam];exact qtj f g l (i+1) _
theorem qCD (ev:Int) (l:List AProduct) (b:Int):frm (l.map (qb5 ev)) b=frm l b:=by
 unfold frm;rw[zzj];cases l[b.toNat]? <;> rfl
theorem qEM (ev:Int) (l:List AProduct) (nm:List UInt8) (day:Int):bst (l.map (qb5 ev)) nm day=bst l nm day:=by
 unfold bst;rw[qtj];congr 1
 funext i b x
 unfold fAt cAt;rw[qCD];rfl
theorem qBq (ev:Int) (l:List AProduct) (nm:List UInt8) (day:Int):atP (l.map (qb5 ev)) nm day=(atP l nm day).map (qb5 ev):=by
 unfold atP;rw[qEM];split
 ·rfl
 ·rw[zzj]
theorem qzQ (ev:Int) (t:Bool) (b:ABooks) (id day:Int):qeX (qgC ev t b) id day=(qeX b id day).map (qb5 ev):=by
 unfold qeX;have h1:qcE (qgC ev t b) id=qcE b id:=rfl
 rw[h1];cases qcE b id with
 |none=>rfl
 |some a=>exact qBq ev b.Products.l a.Product day
theorem qwr (ev:Int) (p:AProduct):(qb5 ev p).Fees.l.filter (qbN ev)=p.Fees.l.filter (qbN ev):=by
 show (p.Fees.l.filter (qbN ev)).filter (qbN ev)=_
 rw[List.filter_filter];congr 1
 funext x
 rw[Bool.and_self]
theorem qEN (t:Bool) (b:ABooks) (id day ev am:Int):qcG (qgC ev t b) id day ev am=qcG b id day ev am:=by
 unfold qcG;rw[qzQ];have h1:qcE (qgC ev t b) id=qcE b id:=rfl
 have h2:qhu (qgC ev t b) id day=qhu b id day:=rfl
 rw[h1,h2];cases qeX b id day with
 |none=>rfl
 |some p=>simp only[Option.map_some,qwr]
theorem qA4 (T:Tab) (t:Bool) (b:ABooks) (id day ev am:Int):qf0 T (qgC ev t b) id day ev am=qf0 T b id day ev am:=by
 unfold qf0;rw[qEN];rfl
theorem qyS {ev:Int} {t:Bool} {b:ABooks} (hb:b.ok):(qgC ev t b).ok:=by
 obtain⟨h1,h2,h3,h4,h5,h6⟩:=hb;refine⟨h1,h2,h3,h4,⟨by rw[show (qgC ev t b).Products.l=b.Products.l.map (qb5 ev) from rfl,zzo];exact h5.1,?_⟩,h6⟩
 intro y hy;obtain⟨p,hp,rfl⟩:=List.mem_map.1 hy;obtain⟨k1,k2,k3,k4,k5,k6,k7,k8,k9,k10,k11⟩:=h5.2 p hp;exact⟨k1,k2,k3,k4,k5,k6,k7,k8,k9,⟨Nat.le_trans (List.length_filter_le _ _) k10.1,fun f hf=>k10.2 f (List.mem_filter.1 hf).1⟩,k11⟩
def qlU (d:DV):Prop:=∃s n,d = .a [.s s,I n]
theorem qzO (T:Tab) (b:ABooks) (id day ev am:Int) : ∀d∈(qf0 T b id day ev am).1,qlU d:=by
 have key : ∀(g:AFee→Int×Int) (l:List AFee),∀d∈chL g l,qlU d:=by
  intro g l d hd;obtain⟨f,_,hf⟩:=List.mem_flatMap.1 hd;unfold chE at hf;split at hf
  ·exact⟨_,_,List.mem_singleton.1 hf⟩
  ·cases hf
 intro d hd;unfold qf0 at hd;split at hd
 ·unfold qmZ at hd;split at hd
  ·cases hd
  ·split at hd
   ·simp only at hd;split at hd
    ·exact key _ _ d hd
    ·cases hd
   ·cases hd
 ·cases hd
theorem qw5 (T:Tab) (b:ABooks) (hf : ∀p∈b.Products.l,p.Fees.l.length≤1000) (id day ev am:Int):(qf0 T b id day ev am).1.length≤1000:=by
 have h1:(qcG b id day ev am).1.length≤1000:=by
  rcases qpP (b:=b) (id:=id) (day:=day) (ev:=ev) (am:=am) with e|⟨p,hp,e⟩
  ·rw[e];exact Nat.zero_le _
  ·rw[e];exact Nat.le_trans (List.length_filter_le _ _) (hf p hp)
 unfold qf0;split
 ·unfold qmZ;split
  ·exact Nat.zero_le _
  ·split
   ·simp only;split
    ·exact Nat.le_trans (qoP _ _) h1
    ·exact Nat.zero_le _
   ·exact Nat.zero_le _
 ·exact Nat.zero_le _
theorem qz0 (T:Tab) (L:List DV) (hL : ∀d∈L,qlU d) (hn:L.length≤1000) (s t:Bool) {k:KC (PV×Bool)} {r:Option (PV×Bool)} {fr:Fr} {H:Heap}
  (he:k (.exit 0) [(14,.d (.b false)),(5,.d (I L.length)),(1,.d (.l (K1 2) L t)),(0,.d (.l (K1 2) L s))] []=r)
  (h0:gc [0,1,5] 0 ⟨fr,H⟩=⟨[(5,.d (I 0)),(1,.d (.l (K1 2) L t)),(0,.d (.l (K1 2) L s))],[]⟩) :
  kC T.env 0 fr H (.h (.loop [0,1,5] ql5,k))=r:=by
 refine qcN (fun i:Nat=>⟨[(5,.d (I i)),(1,.d (.l (K1 2) L t)),(0,.d (.l (K1 2) L s))],[]⟩) (fun i=>i≤L.length) (fun i=>L.length-i) ?_ 0 (Nat.zero_le _) h0
 rintro B-i hi hx;by_cases hlt:i<L.length
 ·have h1:(i:Int)<L.length:=by omega
  have h3:=wr1 (i:=i) (by omega)
  have hx':=hx (i+1) (by omega) (by omega)
  obtain⟨w,n,e⟩:=hL _ (zzs hlt);have he:eqA [3,1] (.d L[i]) (.d L[i])=some true:=by
   rw[e];simp[eqA,eqK,eqL]
  simp[ql5,↓qa4,↓qa3,↓qaR,↓qaT,qaU,↓qaS,↓qaP,↓qbA,↓qa8,qaK,writeS,touchS,qak,qax,chg,qaF,qau,qaH,PV.refs,IOp.okD,Nat.testBit,h1,hlt,h3,he];exact hx' _ _ (by simp[gc,Fr.keep,qae,qac,qab,PV.refs,gcH,PV.ren,Obj.ren,Heap.obj,Fr.ren,gh])
 ·have:i=L.length:=by omega
  subst this;have h1 : ¬((L.length:Int)<L.length):=by omega
  simp[ql5];exact he
theorem qCu (T:Tab) (h8:H8 T) (L:List DV) (hL : ∀d∈L,qlU d) (hn:L.length≤1000) (s t:Bool):T.val 1124 [.l (K1 2) L s,.l (K1 2) L t]=some (.d (.b true),false):=by
 rw[qaf T (h8 1124 qka rfl) rfl];simp[qka,Fr.ofArgs];refine qz0 T L hL hn s t ?_ (by simp[gc,Fr.keep,qae,qac,qab,PV.refs,gcH,PV.ren,Obj.ren,Heap.obj,Fr.ren,gh])
 simp
end Go.Sim
end
section
namespace Go.Sim
set_option maxRecDepth 10000
set_option maxHeartbeats 4000000
theorem qBZ {R:Type} {H:Heap} {id:Nat} {k:K} {b o:Nat} {q:PV→Heap→Option R} (h:H.obj o=some (.sl k 0 [])):bo2 (qgz H id k b (.r o k 0 0 true) []) (.h q)=q (.r o k 0 0 true) H:=by
 simp[qgz,qcI,qbM,h,qcf,bo2]
def bkC (b:ABooks) (n:Nat) (tt:Bool) (r:Nat):PV:=.a ((b.dv.cells.map PV.d).set 17 (.r r (K1 19) 0 n tt))
theorem qg0 (b:ABooks) (n:Nat) (tt:Bool) (r:Nat):PV.refs (bkC b n tt r)=[r]:=rfl
theorem qg9 (b:ABooks) (n:Nat) (tt:Bool) (r:Nat) (ρ:Nat→Option Nat):PV.ren ρ (bkC b n tt r)=match ρ r with|some s=>bkC b n tt s|none=>PV.ren ρ (bkC b n tt r):=by
 cases h:ρ r with
 |none=>rfl
 |some s=>simp[bkC,ABooks.dv,qbR,PV.ren,PV.renL,h]
theorem qmi {R:Type} (b:ABooks) (n:Nat) (tt:Bool) (r:Nat) {q:PV→Option R}:bo (qfD (some 22) (bkC b n tt r) 17 none) (.h q)=q (.r r (K1 19) 0 n tt):=rfl
def hI (b:ABooks) (n:Nat) (tt:Bool) (qs:List DV) (q:DV):List DV→Heap
 | []=>[some (.box (K1 22) (bkC b n tt 1)),some (.sl (K1 19) 0 qs),some (.box (K1 4) (.d q))]
 |x::o=>[some (.sl (K1 10) 0 (x::o)),some (.box (K1 22) (bkC b n tt 2)),some (.sl (K1 19) 0 qs),some (.box (K1 4) (.d q))]
theorem qwg (T:Tab) (b:ABooks) (n:Nat) (tt:Bool) (qs:List DV) (i d ev am:Int) (l:List AFee) (t:Bool) (hn:l.length≤1000) (j e:Int) (L:List DV) (tL:Bool) {k:KC (PV×Bool)} {r:Option (PV×Bool)} {fr:Fr} {H:Heap}
  (he : ∀o,o=(l.filter (qbN ev)).map AFee.dv→k (.exit 2) [(52,.d (.b false)),(11,.d (I l.length)),(10,.d (.l (K1 10) (l.map AFee.dv) t)),(9,qav (K1 10) o),(8,.d (I j)),(7,pB 0 o),(6,.d (I e)),(5,.d (.l (K1 2) L tL)),(3,pB 2 o)] (hI b n tt qs (.a [I i,I d,I ev,I am]) o)=r)
  (h0:gc [3,5,6,7,8,9,10,11] 0 ⟨fr,H⟩=⟨[(11,.d (I 0)),(10,.d (.l (K1 10) (l.map AFee.dv) t)),(9,.d (.l (K1 10) [] true)),(8,.d (I j)),(7,.p 0 0 0),(6,.d (I e)),(5,.d (.l (K1 2) L tL)),(3,.p 2 0 0)],hI b n tt qs (.a [I i,I d,I ev,I am]) []⟩) :
  kC T.env 0 fr H (.h (.loop [3,5,6,7,8,9,10,11] qhv,k))=r:=by
 refine qcN (fun p:Nat×List AFee=>⟨[(11,.d (I p.1)),(10,.d (.l (K1 10) (l.map AFee.dv) t)),(9,qav (K1 10) (p.2.map AFee.dv)),(8,.d (I j)),(7,pB 0 (p.2.map AFee.dv)),(6,.d (I e)),(5,.d (.l (K1 2) L tL)),(3,pB 2 (p.2.map AFee.dv))],hI b n tt qs (.a [I i,I d,I ev,I am]) (p.2.map AFee.dv)⟩) (fun p=>p.1≤l.length∧p.2=(l.take p.1).filter (qbN ev)) (fun p=>l.length-p.1) ?_ (0,[]) ⟨Nat.zero_le _,rfl⟩ h0
 rintro B-⟨m,o⟩ ⟨hi,ha⟩ hx;simp only at hi ha hx⊢;by_cases hlt:m<l.length
 ·have h1:(m:Int)<l.length:=by omega
  have h3:IntKind.i64.wrap ((m:Int)+1)=(m:Int)+1:=wrI (by omega) (by omega)
  have hol:o.length≤m:=by rw[ha];exact Nat.le_trans (List.length_filter_le _ _) (by simp;omega)
  have hst:(l.take (m+1)).filter (qbN ev)=if qbN ev l[m]=true then o++[l[m]] else o:=by
   rw[List.take_succ_eq_append_getElem hlt,List.filter_append,←ha,List.filter_cons];split<;>simp
  obtain⟨f,hf⟩ : ∃f,l[m]=f:=⟨_,rfl⟩;rw[hf] at hst;by_cases hv:f.Event=ev
  ·rw[if_pos (show qbN ev f=true by simp[qbN,hv])] at hst
   have hx':=fun hm=>hx (m+1,o++[f]) ⟨by show m+1≤l.length;omega,hst.symm⟩ hm
   simp only[List.map_append,zzu,List.map_nil] at hx';have hx2:=hx' (by omega)
   clear hx' hx
   generalize ho':o.map AFee.dv=od at *
   have hod:od.length≤m:=by rw[←ho',zzo];exact hol
   cases od with
   |nil =>
    simp only[qav,pB,hI,List.nil_append] at hx2⊢;simp[qhv,h1,hlt,h3,hf,hv,↓qa4,↓qa3,↓qaR,↓qaT,qaU,↓qaS,↓qaP,↓qaZ,↓qa2,↓qa8,qaK,writeS,touchS,qak,qax,chg,qaI,qaF,qau,qaH,PV.refs,IOp.okD,Nat.testBit,qbR];exact hx2 _ _ (by simp[gc,Fr.keep,qae,qac,qab,PV.refs,qad,gcH,qag,Obj.refs,PV.ren,Obj.ren,Heap.obj,Fr.ren,gh,zzd,qg0,qg9])
   |cons x od =>
    simp only[qav,pB,hI,List.cons_append] at hx2⊢;simp only[zzn] at hod;have h5:(od.length+1+1)*136≤140737488355328:=by omega
    have ht:od.take od.length=od:=List.take_of_length_le (by simp)
    simp[qhv,h1,hlt,h3,hf,hv,h5,ht,↓qa4,↓qa3,↓qaR,↓qaT,qaU,↓qaS,↓qaP,↓qaZ,↓qa2,↓qa8,qaK,writeS,touchS,qak,qax,chg,qaI,qaF,qau,qaH,PV.refs,IOp.okD,Nat.testBit,qbR];exact hx2 _ _ (by simp[gc,Fr.keep,qae,qac,qab,PV.refs,qad,gcH,qag,Obj.refs,PV.ren,Obj.ren,Heap.obj,Fr.ren,gh,zzd,qg0,qg9])
  ·rw[if_neg (show ¬qbN ev f=true by simp[qbN,hv])] at hst
   have hx2:=hx (m+1,o) ⟨by show m+1≤l.length;omega,hst.symm⟩ (by show l.length-(m+1)<l.length-m;omega)
   clear hx
   have gv:=qai hv
   generalize ho':o.map AFee.dv=od at *
   cases od with
   |nil =>
    simp only[qav,pB,hI] at hx2⊢;simp[qhv,h1,hlt,h3,hf,gv,↓qa4,↓qa3,↓qaR,↓qaT,qaU,↓qaS,↓qaP,↓qaZ,↓qa2,↓qa8,qaK,writeS,touchS,qak,qax,chg,qaI,qaF,qau,qaH,PV.refs,IOp.okD,Nat.testBit,qbR];exact hx2 _ _ (by simp[gc,Fr.keep,qae,qac,qab,PV.refs,qad,gcH,qag,Obj.refs,PV.ren,Obj.ren,Heap.obj,Fr.ren,gh,zzd,qg0,qg9])
   |cons x od =>
    simp only[qav,pB,hI] at hx2⊢;simp[qhv,h1,hlt,h3,hf,gv,↓qa4,↓qa3,↓qaR,↓qaT,qaU,↓qaS,↓qaP,↓qaZ,↓qa2,↓qa8,qaK,writeS,touchS,qak,qax,chg,qaI,qaF,qau,qaH,PV.refs,IOp.okD,Nat.testBit,qbR];exact hx2 _ _ (by simp[gc,Fr.keep,qae,qac,qab,PV.refs,qad,gcH,qag,Obj.refs,PV.ren,Obj.ren,Heap.obj,Fr.ren,gh,zzd,qg0,qg9])
 ·have:m=l.length:=by omega
  subst this;rw[List.take_length] at ha;subst ha;have he':=he _ rfl
  have h1 : ¬((l.length:Int)<l.length):=by omega
  generalize (l.filter (qbN ev)).map AFee.dv=od at *
  cases od with
  |nil =>
   simp only[qav,pB,hI] at he'⊢;simp[qhv];exact he'
  |cons x od =>
   simp only[qav,pB,hI] at he'⊢;simp[qhv];exact he'
end Go.Sim
end
end
