/- Part 20 of the proof: CbH6, CbX3, CbBq, CbXe, CbV25E, CbJ1, CbJ2, CbH7, CbH8, CbJ3, CbH9, CbHa, CbHb, CbHc, CbHd, CbJ4, CbX4, CbX4b, CbX9, CbXa, CbXb0, CbXb, CbX5, CbX6, CbX7, CbX8, CbHe, CbHf, CbHg, CbJ5, CbJ6, CbJ7, CbJ8, CbJ9, CbXg, CbV25F, CbV25Q, CbQ1, CbN0, CbV25N, CbN1, CbN2. -/
import Derived.Test.YtkijgkjjbanipaaGreatDoorB19
import Derived.Test.YtkijgkjjbanipaaGreatDoorB6
import Derived.Test.YtkijgkjjbanipaaGreatDoorB7
import Derived.Test.YtkijgkjjbanipaaGreatDoorB8
section
open Go.Sim
attribute [local simp ↓] qeK qda qe3 qej qd4 qd3 qeP qde sqK blK lpK qdp qd1 qdh qdS qe4 qd6 qdV qd8 qdt qe0 qdc qdw qem qdH qes qer qdf qeD qea qeq qd2 qdU qeZ qdn qeL qeG qep qdi qc7 qeS qd7 qe5 qc9 qd9 qex qek qd5 qco qcE qdC qdX qdM qcV qdN qc8 qcU qeA qdr qds qec qei qc4 qeO qc5 qeV qdk qef qed qeH qdW qdy qdb qdZ qe1 qeE qc0 qcY qet qcZ qcx qdu qcQ qcW qdx qcs qeU qeC qev qd0 qeX qeg qdQ qeu qdv qdJ qdK qeJ qeR qdY qeI qfo qfH qfA qfV qfE qfS qfC qfD qfx qfO qfP qfJ
attribute [local simp] qcA qdm qdI qeo qey qdq qdG qdF qdL qeb qdB rd IOp.adds qap gh nid rgK rdS qeF qdO qeB qee qdR qdP qe7 qdE qeN qew qeY qeT qeh qeM qeQ qe6 qez qdz qe2 qel qdo qfl qfs qfm qfa qft qfd qfr qfG qfW qfB qfF
section
namespace Go.Sim
set_option maxRecDepth 10000
set_option maxHeartbeats 4000000
def qb6 (acc day:Int) (x:ABlock):Bool:=x.Account==acc&&(decide (x.From≤day)&&decide (day≤x.To))
def qav (k:K):List DV→PV
  | []=>.d (.l k [] true)
  | _x::r=>.r 0 k 0 (r.length+1) false
def qbN (k:K):List DV→Heap
  | []=>[]
  |x::r=>[some (.sl k 0 (x::r))]
theorem qBd (T:Tab) (l:List ABlock) (t:Bool) (acc day:Int) (hn:l.length≤100000) {k:KC (PV×Bool)} {fr:Fr} {H:Heap}
    (hk : ∀(out:List ABlock),out.length≤l.length→k (.exit 0) ((13,.d (.b false))::[(12,(.d (I (l.length:Int)))),(11,(.d (I l.length))),(10,(.d (.l (K1 7) (l.map ABlock.dv) t))),(7,(qav (K1 7) (out.map ABlock.dv))),(2,(.d (I day))),(1,(.d (I acc)))]) (qbN (K1 7) (out.map ABlock.dv))=some (.d (.l (K1 7) (out.map ABlock.dv) false),true))
    (h0:gc [1,2,7,10,11,12] 0 ⟨fr,H⟩=⟨[(12,(.d (I (0:Int)))),(11,(.d (I l.length))),(10,(.d (.l (K1 7) (l.map ABlock.dv) t))),(7,(qav (K1 7) [])),(2,(.d (I day))),(1,(.d (I acc)))],qbN (K1 7) []⟩) :
    kC T.env 0 fr H (.h (.loop [1,2,7,10,11,12] qjl,k))=some (.d (.l (K1 7) ((l.filter (qb6 acc day)).map ABlock.dv) false),true):=by
  have hm:=mxl
  rw[qb1 l (fun i (out:List ABlock)=>⟨[(12,(.d (I (i:Int)))),(11,(.d (I l.length))),(10,(.d (.l (K1 7) (l.map ABlock.dv) t))),(7,(qav (K1 7) (out.map ABlock.dv))),(2,(.d (I day))),(1,(.d (I acc)))],qbN (K1 7) (out.map ABlock.dv)⟩) (fun i out=>out.length≤i) (fun i out x c=>c (if qb6 acc day x=true then out++[x] else out)) (fun out=>if out.length≤l.length then some (.d (.l (K1 7) (out.map ABlock.dv) false),true) else k (.exit 0) ((13,.d (.b false))::[(12,(.d (I (l.length:Int)))),(11,(.d (I l.length))),(10,(.d (.l (K1 7) (l.map ABlock.dv) t))),(7,(qav (K1 7) (out.map ABlock.dv))),(2,(.d (I day))),(1,(.d (I acc)))]) (qbN (K1 7) (out.map ABlock.dv))) ?_ ?_ (b0:=[]) h0 (zzt _)]
  · rw[qfQ (fun _ out x=>if qb6 acc day x=true then out++[x] else out) _ _ (fun _ _ _ _=>rfl)]
    have key : ∀(l:List ABlock) (i:Nat) (out:List ABlock),qaj (fun _ out x=>if qb6 acc day x=true then out++[x] else out) i out l=out++l.filter (qb6 acc day):=by
      intro l;induction l with
      |nil=>intro i out;simp[qaj]
      |cons x l ih=>intro i out;rw[qaj,ih,List.filter_cons];split<;>simp
    rw[key,List.nil_append,if_pos (List.length_filter_le _ _)]
  · intro B _ out ho
    rw[if_pos ho,←hk out ho];have h1 : ¬((l.length:Int)<l.length):=by omega
    cases out with
    |nil=>simp[qjl,qav,qbN]
    |cons x out=>simp[qjl,qav,qbN]
  · intro B _ i out hi ho c hc
    have h1:(i:Int)<l.length:=by omega
    have h3:=wr1 (i:=i) (by omega)
    have hs:(if qb6 acc day l[i]=true then out++[l[i]] else out).length≤i+1:=by
      split
      · simp only[zzp,zzn,List.length_nil];omega
      · omega
    have h4:(out.length+1)*64≤2^47:=by omega
    have h4':(out.length+1)*64≤140737488355328:=by omega
    cases out with
    |nil =>
      simp[qjl,h1,hi,qav,qbN];repeat' (refine qa9 (fun h => ?_) (fun h => ?_)<;>(try simp at h)<;>(try simp[h,h3]))
      all_goals first
        | (have e:(if qb6 acc day l[i]=true then [l[i]] else [])=[l[i]]:=by simp[qb6, *]
           rw[e];exact hc _ _ _ (by simp) (by simp[gc,Fr.keep,qad,qac,qab,PV.refs,qag,gcH,qaf,Obj.refs,PV.ren,Obj.ren,Heap.obj,Fr.ren,gh,zzd,qav,qbN]))
        | (have e:(if qb6 acc day l[i]=true then [l[i]] else [])=[]:=by
             simp[qb6, *];try omega
           rw[e];exact hc _ _ _ (by simp) (by simp[gc,Fr.keep,qad,qac,qab,PV.refs,gcH,PV.ren,Obj.ren,Heap.obj,Fr.ren,gh,qav,qbN]))
    |cons x out =>
      have h5:(out.length+1+1)*64≤140737488355328:=by simpa using h4'
      have ht:(out.map ABlock.dv).take out.length=out.map ABlock.dv:=List.take_of_length_le (by simp)
      simp only[zzn] at ho;simp[qjl,h1,hi,qav,qbN];repeat' (refine qa9 (fun h => ?_) (fun h => ?_)<;>(try simp at h)<;>(try simp[h,h3,h5]))
      all_goals first
        | (have e:(if qb6 acc day l[i]=true then x::(out++[l[i]]) else x::out)=x::(out++[l[i]]):=by simp[qb6, *]
           rw[e];exact hc _ _ _ (by simp;omega) (by simp[gc,Fr.keep,qad,qac,qab,PV.refs,qag,gcH,qaf,Obj.refs,PV.ren,Obj.ren,Heap.obj,Fr.ren,gh,zzd,qav,qbN,ht]))
        | (have e:(if qb6 acc day l[i]=true then x::(out++[l[i]]) else x::out)=x::out:=by
             simp[qb6, *];try omega
           rw[e];exact hc _ _ _ (by simp;omega) (by simp[gc,Fr.keep,qad,qac,qab,PV.refs,qag,gcH,qaf,Obj.refs,PV.ren,Obj.ren,Heap.obj,Fr.ren,gh,zzd,qav,qbN]))
theorem qrZ (T:Tab) (hT:HU T) (l:List ABlock) (t:Bool) (acc day:Int) (hn:l.length≤100000):T.val 803 [.l (K1 7) (l.map ABlock.dv) t,I acc,I day]=some (.d (.l (K1 7) ((l.filter (qb6 acc day)).map ABlock.dv) false),true):=by
  rw[qae T (hT 803 qkc rfl) rfl];simp[qkc,Fr.ofArgs];refine qBd T l t acc day hn (fun out ho => ?_) (by simp[gc,Fr.keep,qad,qac,qab,PV.refs,gcH,PV.ren,Obj.ren,Heap.obj,Fr.ren,gh,qav,qbN])
  cases out with
  |nil=>simp[qav,qbN]
  |cons x out =>
    have ht:(out.map ABlock.dv).take out.length=out.map ABlock.dv:=List.take_of_length_le (by simp)
    simp[qav,qbN,ht]
def qkC (x:ABlock):DV:=if x.Kind=1 then .ifc 185 (.a []) else if x.Kind=2 then .ifc 186 (.a []) else if x.Kind=3 then .ifc 187 (.a []) else if x.Kind=4 then .ifc 128 (.a [I x.Amount]) else .ifc 188 (.a [])
theorem quO (T:Tab) (hT:HU T) (x:ABlock):T.val 804 [x.dv]=some (.d (qkC x),false):=by
  rw[qae T (hT 804 qlv rfl) rfl];simp[qlv,Fr.ofArgs];repeat' (refine qa9 (fun h => ?_) (fun h => ?_)<;>(try simp at h)<;>(try simp[h,↓qaD,↓qaH,↓qaF,putAt,mkA,qal,qay,qaC]))
  all_goals simp_all[qkC]
def qhh (_:Nat) (n:Int) (x:ABlock):Int:=if (x.Kind==4)=true then w64 (n+x.Amount) else n
def qo9 (l:List ABlock) (acc day:Int):Int:=qaj qhh 0 0 (l.filter (qb6 acc day))
theorem qxa (x:ABlock) : ∃u v,qkC x = .ifc u v∧((u=128∧v = .a [I x.Amount]∧x.Kind=4)∨(u≠128∧x.Kind≠4)):=by
  unfold qkC;by_cases h1:x.Kind=1
  · exact⟨185,.a [],by rw[if_pos h1],.inr ⟨by decide,by omega⟩⟩
  by_cases h2:x.Kind=2
  · exact⟨186,.a [],by rw[if_neg h1,if_pos h2],.inr ⟨by decide,by omega⟩⟩
  by_cases h3:x.Kind=3
  · exact⟨187,.a [],by rw[if_neg h1,if_neg h2,if_pos h3],.inr ⟨by decide,by omega⟩⟩
  by_cases h4:x.Kind=4
  · exact⟨128,_,by rw[if_neg h1,if_neg h2,if_neg h3,if_pos h4],.inl ⟨rfl,rfl,h4⟩⟩
  · exact⟨188,.a [],by rw[if_neg h1,if_neg h2,if_neg h3,if_neg h4],.inr ⟨by decide,h4⟩⟩
theorem qBF (T:Tab) (l:List ABlock) (t:Bool) (hT:HU T) (hn:l.length≤maxLen) {k:KC (PV×Bool)} {fr:Fr} {H:Heap} (h0:gc [7,15,16,17] 0 ⟨fr,H⟩=⟨[(17,(.d (I (0:Int)))),(16,(.d (I l.length))),(15,(.d (.l (K1 7) (l.map ABlock.dv) t))),(7,(.d (I 0)))],[]⟩) :
    kC T.env 0 fr H (.h (.loop [7,15,16,17] qjM,k))=k (.exit 0) [(18,.d (.b false)),(17,(.d (I (l.length:Int)))),(16,(.d (I l.length))),(15,(.d (.l (K1 7) (l.map ABlock.dv) t))),(7,(.d (I (qaj (qhh) 0 0 l))))] []:=by
  rw[qb1 l (fun i (b:Int)=>⟨[(17,(.d (I (i:Int)))),(16,(.d (I l.length))),(15,(.d (.l (K1 7) (l.map ABlock.dv) t))),(7,(.d (I b)))],[]⟩) (fun _ _=>True) (fun i b x c=>c (qhh i b x)) (fun b=>k (.exit 0) [(18,.d (.b false)),(17,(.d (I (l.length:Int)))),(16,(.d (I l.length))),(15,(.d (.l (K1 7) (l.map ABlock.dv) t))),(7,(.d (I b)))] []) ?_ ?_ h0 trivial]
  · rw[qfQ (qhh) _ _ (fun _ _ _ _=>rfl)]
  · intro B _ b _
    simp[qjM]
  · intro B _ i b hi _ c hc
    have hm:=mxl
    have h1:(i:Int)<l.length:=by omega
    have h3:=wr1 (i:=i) (by omega)
    have hv:=quO T hT l[i]
    obtain⟨u,v,hc1,⟨rfl,rfl,hk⟩|⟨hu,hk⟩⟩:=qxa l[i]
    · rw[hc1] at hv
      have e:qhh i b l[i]=w64 (b+l[i].Amount):=by simp[qhh,hk]
      simp[qjM,h1,hi,hv];rw[e];exact hc _ _ _ trivial (by simp[gc,Fr.keep,qad,qac,qab,PV.refs,gcH,PV.ren,Obj.ren,Heap.obj,Fr.ren,gh,h3,w64])
    · rw[hc1] at hv
      have e:qhh i b l[i]=b:=by simp[qhh,hk]
      simp[qjM,h1,hi,h3,hv,hu];rw[e];exact hc _ _ _ trivial (by simp[gc,Fr.keep,qad,qac,qab,PV.refs,gcH,PV.ren,Obj.ren,Heap.obj,Fr.ren,gh])
theorem qAw (T:Tab) (hT:HU T) (l:List ABlock) (t:Bool) (acc day:Int) (hn:l.length≤100000):T.val 720 [.l (K1 7) (l.map ABlock.dv) t,I acc,I day]=some (.d (I (qo9 l acc day)),false):=by
  rw[qae T (hT 720 qkg rfl) rfl];have e:=qrZ T hT l t acc day hn
  have hl:(l.filter (qb6 acc day)).length≤maxLen:=by
    have:=List.length_filter_le (qb6 acc day) l
    have hm:=mxl
    omega
  simp[qkg,Fr.ofArgs,e];refine (qBF T (l.filter (qb6 acc day)) false hT hl (by simp[gc,Fr.keep,qad,qac,qab,PV.refs,gcH,PV.ren,Obj.ren,Heap.obj,Fr.ren,gh])).trans ?_
  simp[qo9]
end Go.Sim
end
end
section
open Go.Sim
attribute [local simp ↓] qeK qda qe3 qej qd4 qd3 qeP qde sqK blK lpK qdp qd1 qdh qdS qe4 qd6 qdV qd8 qdt qe0 qdc qdw qem qdH qes qer qdf qeD qea qeq qd2 qdU qeZ qdn qeL qeG qep qdi qc7 qeS qd7 qe5 qc9 qd9 qex qek qd5 qco qcE qdC qdX qdM qcV qdN qc8 qcU qeA qdr qds qec qei qc4 qeO qc5 qeV qdk qef qed qeH qdW qdy qdb qdZ qe1 qeE qc0 qcY qet qcZ qcx qdu qcQ qcW qdx qcs qeU qeC qev qd0 qeX qeg qdQ qeu qdv qdJ qdK qeJ qeR qdY qeI qfo qfH qfA qfV qfE qfS qfC qfD qfx qfO qfP qfJ qgB qfc
attribute [local simp] qcA qdm qdI qeo qey qdq qdG qdF qdL qeb qdB rd IOp.adds qap gh nid rgK rdS qeF qdO qeB qee qdR qdP qe7 qdE qeN qew qeY qeT qeh qeM qeQ qe6 qez qdz qe2 qel qdo qfl qfs qfm qfa qft qfd qfr qfG qfW qfB qfF
section
namespace Go.Sim
set_option maxRecDepth 10000
set_option maxHeartbeats 4000000
def qb3 (k:K) (bs:Heap):List DV→Heap
 | []=>bs
 |x::r=>some (.sl k 0 (x::r))::bs
def pB (i:Nat):List DV→PV
 | []=>.p i 0 0
 | _::_=>.p (i+1) 0 0
theorem qoL {α:Type} (f:α→DV) (l:List α) (i:Nat) (h:i<l.length):(l.take (i+1)).map f=(l.take i).map f++[f l[i]]:=by
 rw[List.take_succ_eq_append_getElem h,List.map_append,zzu,List.map_nil]
theorem qzy (T:Tab) (op:Int) (vs:List AValue) (t:Bool) (z:DV) (hn:vs.length*56≤140737488355328) {k:KC (PV×Bool)} {r:Option (PV×Bool)} {fr:Fr} {H:Heap}
  (he:k (.exit 0) [(19,.d (.b false)),(18,.d (I vs.length)),(17,.d (I vs.length)),(16,.d (.l (K1 2) (vs.map AValue.dv) t)),(6,qav K0 (vs.map fun v=>I v.Typ)),(4,pB 0 (vs.map fun v=>I v.Typ)),(1,.d (.l (K1 2) (vs.map AValue.dv) t)),(0,.d (I op))] (qb3 K0 [some (.box (K1 2) (.d z))] (vs.map fun v=>I v.Typ))=r)
  (h0:gc [0,1,4,6,16,17,18] 0 ⟨fr,H⟩=⟨[(18,.d (I 0)),(17,.d (I vs.length)),(16,.d (.l (K1 2) (vs.map AValue.dv) t)),(6,.d (.l K0 [] true)),(4,.p 0 0 0),(1,.d (.l (K1 2) (vs.map AValue.dv) t)),(0,.d (I op))],[some (.box (K1 2) (.d z))]⟩) :
  kC T.env 0 fr H (.h (.loop [0,1,4,6,16,17,18] qlE,k))=r:=by
 refine qhL (fun p:Nat×List DV=>⟨[(18,.d (I p.1)),(17,.d (I vs.length)),(16,.d (.l (K1 2) (vs.map AValue.dv) t)),(6,qav K0 p.2),(4,pB 0 p.2),(1,.d (.l (K1 2) (vs.map AValue.dv) t)),(0,.d (I op))],qb3 K0 [some (.box (K1 2) (.d z))] p.2⟩) (fun i=>(i,(vs.take i).map fun v=>I v.Typ)) vs.length ?_ ?_ (by rw[h0];rfl)
 ·intro B _;simp only[List.take_length];rw[←he];have h1 : ¬((vs.length:Int)<vs.length):=by omega
  simp[qlE]
 ·intro B _ i hi c hc;have h1:(i:Int)<vs.length:=by omega
  have h3:=wr1 (i:=i) (by omega)
  have hl:((vs.take i).map fun v=>I v.Typ).length≤i:=by simp;omega
  simp only[qoL (fun v:AValue=>I v.Typ) vs i hi] at hc
  simp only;generalize (vs.take i).map (fun v=>I v.Typ)=o at *
  cases o with
  |nil =>
   simp only[qav,qb3,pB,List.nil_append] at hc⊢;simp[qlE,h1,hi,h3];exact hc _ _ (by simp[gc,Fr.keep,qad,qac,qab,PV.refs,qag,gcH,qaf,Obj.refs,PV.ren,Obj.ren,Heap.obj,Fr.ren,gh,zzd])
  |cons x o =>
   simp only[qav,qb3,pB,List.cons_append] at hc⊢;simp only[zzn] at hl;have h5:(o.length+1+1)*8≤140737488355328:=by omega
   have ht:o.take o.length=o:=List.take_of_length_le (by simp)
   simp[qlE,h1,hi,h3,h5,ht];exact hc _ _ (by simp[gc,Fr.keep,qad,qac,qab,PV.refs,qag,gcH,qaf,Obj.refs,PV.ren,Obj.ren,Heap.obj,Fr.ren,gh,zzd])
theorem qE8 (T:Tab) (hT:HT T) (op w:Int) (vs:List AValue) (t:Bool) (z:DV) (hn:vs.length*56≤140737488355328) {k:KC (PV×Bool)} {r:Option (PV×Bool)} {fr:Fr} {H:Heap}
  (he:vs.all okV=true→k (.exit 2) [(40,.d (.b false)),(39,.d (I vs.length)),(38,.d (I vs.length)),(37,.d (.l (K1 2) (vs.map AValue.dv) t)),(9,.d (I w)),(4,.p 0 0 0),(1,.d (.l (K1 2) (vs.map AValue.dv) t)),(0,.d (I op))] [some (.box (K1 2) (.d z))]=r)
  (hr:vs.all okV=false→∀fr J,fr.get 4 = .p 0 0 0→fr.get 5 = .d (I 1)→qau fr=[]→k .ret fr (some (.box (K1 2) (.d (.a [I 0,I 0])))::J)=r)
  (h0:gc [0,1,4,9,37,38,39] 0 ⟨fr,H⟩=⟨[(39,.d (I 0)),(38,.d (I vs.length)),(37,.d (.l (K1 2) (vs.map AValue.dv) t)),(9,.d (I w)),(4,.p 0 0 0),(1,.d (.l (K1 2) (vs.map AValue.dv) t)),(0,.d (I op))],[some (.box (K1 2) (.d z))]⟩) :
  kC T.env 0 fr H (.h (.loop [0,1,4,9,37,38,39] qk2,k))=r:=by
 refine qfT (fun i:Nat=>⟨[(39,.d (I i)),(38,.d (I vs.length)),(37,.d (.l (K1 2) (vs.map AValue.dv) t)),(9,.d (I w)),(4,.p 0 0 0),(1,.d (.l (K1 2) (vs.map AValue.dv) t)),(0,.d (I op))],[some (.box (K1 2) (.d z))]⟩) (fun i=>i≤vs.length∧(vs.take i).all okV=true) (fun i=>vs.length-i) ?_ 0 ⟨Nat.zero_le _,by simp⟩ h0
 rintro B-i ⟨hi,ha⟩ hx;by_cases hlt:i<vs.length
 ·have h1:(i:Int)<vs.length:=by omega
  have h3:=wr1 (i:=i) (by omega)
  have e:=qoI T hT vs[i]
  cases hk:okV vs[i] with
  |true =>
   rw[hk] at e;have hx':=hx (i+1) ⟨by omega,by rw[List.take_succ_eq_append_getElem hlt,List.all_append,ha];simp[hk]⟩ (by omega)
   simp[qk2,h1,hlt,e,h3];exact hx' _ _ (by simp[gc,Fr.keep,qad,qac,qab,PV.refs,qag,gcH,qaf,Obj.refs,PV.ren,Obj.ren,Heap.obj,Fr.ren,gh,zzd])
  |false =>
   rw[hk] at e;have hf:vs.all okV=false:=by
    rw[List.all_eq_false];exact⟨vs[i],zzs hlt,by simp[hk]⟩
   have hr':=hr hf
   simp[qk2,h1,hlt,e,↓qaD,↓qaH,mkA,qal];exact hr' _ _ (by simp[Fr.get]) (by simp[Fr.get]) (by simp[qau,gh])
 ·have:i=vs.length:=by omega
  subst this;rw[List.take_length] at ha;have he':=he ha
  have h1 : ¬((vs.length:Int)<vs.length):=by omega
  simp[qk2];exact he'
def chP (op:Int):List AValue→Int
 | [a]=>IntKind.i64.wrap (1-a.N)
 | [a,b]=>qgJ op a.N b.N
 | [a,b,c]=>if a.N=1 then b.N else c.N
 | _=>0
def clP (op:Int):List AValue→Int×Int
 | [a]=>qb4 (-a.N)
 | [a,b]=>qju op a b
 | _=>(0,0)
def qjw (w:Int) (ok:Bool) (op:Int) (vs:List AValue):AValue×Int :=
 if ok=false then (⟨0,0⟩,3) else if vs.all okV=false then (⟨0,0⟩,1)
 else if op<5∨9<op then (⟨w,chP op vs⟩,0)
 else if (clP op vs).2=0 then (if okV ⟨w,(clP op vs).1⟩=true then (⟨w,(clP op vs).1⟩,0) else (⟨0,0⟩,6))
 else (⟨0,0⟩,(clP op vs).2)
def qgm (op:Int) (vs:List AValue):AValue×Int:=qjw (qcb op (vs.map (·.Typ))).1 (qcb op (vs.map (·.Typ))).2 op vs
def qbP (p:AValue×Int):PV×Bool:=(.t [.d p.1.dv,.d (I p.2)],false)
theorem qrF {op a b:Int} : ∀{l},(∀x∈l,(5:Int)≤x.1.1∧x.1.1≤8)→arF l op a b≠none→5≤op∧op≤8
 | [],_,h=>absurd rfl h
 |x::r,hl,h=>by
  rw[arF] at h;by_cases c:op=x.1.1∧a=x.1.2.1∧b=x.1.2.2
  ·have:=hl x (by simp)
   omega
  ·rw[if_neg c] at h;exact qrF (fun y hy=>hl y (by simp[hy])) h
theorem qrS {op a b:Int} (h:arV op a b≠0):5≤op∧op≤8:=by
 apply qrF (l:=arL) (a:=a) (b:=b)
 ·decide
 ·intro c;rw[arV,c] at h;exact h rfl
theorem qsZ {op a b:Int} (h:(qcF op a b).2=true):op≠9∧op≠16∧op≠19:=by
 unfold qcF at h;by_cases h1:op=10∨op=11
 ·omega
 rw[if_neg h1] at h;by_cases h2:op=12∨op=13
 ·omega
 rw[if_neg h2] at h;by_cases h3:op=14∨op=15
 ·omega
 rw[if_neg h3] at h;by_cases h4:op=17∨op=18
 ·omega
 rw[if_neg h4] at h;have h:arV op a b≠0:=by simpa using h
 have:=qrS h
 omega
theorem qt8 {op a:Int} (h:(qcS op a).2=true):op=9∨op=16:=by
 unfold qcS at h;by_cases h1:op=16
 ·exact .inr h1
 ·rw[if_neg h1] at h;by_cases h2:op=9
  ·exact .inl h2
  ·rw[if_neg h2] at h;cases h
theorem qEM (T:Tab) (hT:HT T) (op:Int) (vs:List AValue) (t:Bool) (hi : ∀v∈vs,v.i) (h:(qcb op (vs.map (·.Typ))).2=true) :
  ((op<5∨9<op)→T.val 983 [I op,.l (K1 2) (vs.map AValue.dv) t]=some (.d (I (chP op vs)),false))∧(¬(op<5∨9<op)→T.val 984 [I op,.l (K1 2) (vs.map AValue.dv) t]=some (two (clP op vs))):=by
 unfold qcb at h;by_cases ha:(vs.map (·.Typ)).all qcT=true
 ·rw[if_pos ha] at h;match vs,hi,h with
  | [],_,h=>cases h
  | [a],hi,h =>
   simp only[zzu,List.map_nil] at h⊢;have ho:(qcS op a.Typ).2=true:=by
    by_cases c:(qcS op a.Typ).2=true
    ·exact c
    ·rw[if_neg c] at h;cases h
   have:=qt8 ho
   refine⟨fun h1 => ?_,fun h1 => ?_⟩
   ·have:op=16:=by omega
    subst this;exact qx5 T hT a t
   ·have:op=9:=by omega
    subst this;exact qAy T hT a t (hi a (by simp))
  | [a,b],hi,h =>
   simp only[zzu,List.map_nil] at h⊢;have ho:(qcF op a.Typ b.Typ).2=true:=by
    by_cases c:(qcF op a.Typ b.Typ).2=true
    ·exact c
    ·rw[if_neg c] at h;cases h
   obtain⟨o1,o2,o3⟩:=qsZ ho;exact⟨fun _=>qD3 T hT op a b t o2 o3,fun _=>qEJ T hT op a b t (hi a (by simp)) (hi b (by simp)) o1⟩
  | [a,b,c],hi,h =>
   simp only[zzu,List.map_nil] at h⊢;have ho:op=19:=by
    by_cases c':op=19∧a.Typ=5∧b.Typ=c.Typ
    ·exact c'.1
    ·rw[if_neg c'] at h;cases h
   subst ho;exact⟨fun _=>qxg T hT a b c t,fun h1=>absurd (.inr (by decide)) h1⟩
  | _::_::_::_::_,_,h=>cases h
 ·rw[if_neg ha] at h;cases h
theorem qgI (l:List DV):(PV.d (.a l)).cells=l.map .d:=rfl
theorem qgS (l:List DV):DV.cells (.a l)=l:=rfl
theorem qhY {R:Type} {a b:DV} {q:PV→Option R}:bo (mkP (K1 2) [.d a,.d b]) (.h q)=q (.d (.a [a,b])):=rfl
theorem qAK (T:Tab) (hT:HT T) (hA:HA T) (op:Int) (vs:List AValue) (t:Bool) (hn:vs.length*56≤140737488355328) (hi : ∀v∈vs,v.i):T.val 967 [I op,.l (K1 2) (vs.map AValue.dv) t]=some (qbP (qgm op vs)):=by
 have lp0:=fun k r fr H => @qzy T op vs t (.a [I 0,I 0]) hn k r fr H
 have lp1:=fun w k r fr H => @qE8 T hT op w vs t (.a [I 0,I 0]) hn k r fr H
 have hm:=mxl
 have e411:=ql7 T hT hA op (vs.map (·.Typ)) false (by rw[zzo,hm];omega)
 have e411t:=ql7 T hT hA op (vs.map (·.Typ)) true (by rw[zzo,hm];omega)
 rw[List.map_map] at e411 e411t;have hp:=qEM T hT op vs t hi
 unfold qgm;have hmm:((fun n=>I n)∘fun v:AValue=>v.Typ)=fun v:AValue=>I v.Typ:=rfl
 rw[hmm] at e411 e411t;generalize qcb op (vs.map (·.Typ))=p at *
 obtain⟨w,ok⟩:=p;unfold qbc at e411 e411t;simp only at hp e411 e411t⊢;obtain⟨r,hr⟩ : ∃r,some (qbP (qjw w ok op vs))=r:=⟨_,rfl⟩;rw[qae T (hT 967 qk8 rfl) rfl,hr];simp[qk8,Fr.ofArgs];refine lp0 _ _ _ _ ?_ (by simp[gc,Fr.keep,qad,qac,qab,PV.refs,qag,gcH,qaf,Obj.refs,PV.ren,Obj.ren,Heap.obj,Fr.ren,gh,zzd])
 cases ho:vs.map (fun v=>I v.Typ) with
 |nil =>
  have hv:vs=[]:=by simpa using ho
  subst hv;simp only[List.map_nil] at e411t;cases ok with
  |false =>
   rw[qjw,if_pos rfl] at hr;rw[←hr];simp[qav,qb3,pB,e411t,↓qaD,↓qaH,mkA,qal,qbP,AValue.dv]
  |true =>
   exfalso
   have:=e411t
   have e0:=ql7 T hT hA op [] true (by simp)
   simp only[List.map_nil] at e0;rw[e0] at this;simp[qcb,qbc] at this
 |cons x o =>
  rw[ho] at e411;have ht:o.take o.length=o:=List.take_of_length_le (by simp)
  cases ok with
  |false =>
   rw[qjw,if_pos rfl] at hr;rw[←hr];simp[qav,qb3,pB,ht,qbe,pur,qbV,PV.scal,PV.scal1,DV.scal,DV.scal1,e411,↓qaD,↓qaH,mkA,qal,qbP,AValue.dv]
  |true =>
   obtain⟨p1,p2⟩:=hp rfl;rw[qjw,if_neg (by decide)] at hr
   simp[qav,qb3,pB,ht,qbe,pur,qbV,PV.scal,PV.scal1,DV.scal,DV.scal1,e411];refine lp1 w _ _ _ _ (fun ha => ?_) (fun ha fr J f4 f5 fg => ?_) (by simp[gc,Fr.keep,qad,qac,qab,PV.refs,qag,gcH,qaf,Obj.refs,PV.ren,Obj.ren,Heap.obj,Fr.ren,gh,zzd])
   ·rw[if_neg (by rw[ha];decide)] at hr
    by_cases h5:op<5
    ·rw[if_pos (.inl h5)] at hr;rw[←hr];have e:=p1 (.inl h5)
     simp[h5,e,↓qaD,↓qaH,↓qaF,putAt,mkA,qal,qay,qaC,qgI,qhY,qbP,AValue.dv]
    ·by_cases h9:9<op
     ·rw[if_pos (.inr h9)] at hr;rw[←hr];have e:=p1 (.inr h9)
      simp[h5,h9,e,↓qaD,↓qaH,↓qaF,putAt,mkA,qal,qay,qaC,qgI,qhY,qbP,AValue.dv]
     ·rw[if_neg (by omega)] at hr
      rw[←hr];clear hr
      have e:=p2 (by omega)
      generalize clP op vs=q at *
      obtain⟨n,f⟩:=q;unfold two at e;simp only at e⊢;have e3:=qoI T hT ⟨w,n⟩
      rw[AValue.dv] at e3;simp only at e3;by_cases hf:f=0
      ·subst hf;rw[if_pos rfl];cases hk:okV ⟨w,n⟩ with
       |true =>
        rw[hk] at e3;simp[h5,h9,e,e3,↓qaD,↓qaH,↓qaF,putAt,mkA,qal,qay,qaC,qgI,qhY,qbP,AValue.dv]
       |false =>
        rw[hk] at e3;simp[h5,h9,e,e3,↓qaD,↓qaH,↓qaF,putAt,mkA,qal,qay,qaC,qgI,qhY,qbP,AValue.dv]
      ·have gf:=qai hf
       rw[if_neg hf];simp[h5,h9,e,gf,bne,↓qaD,↓qaH,↓qaF,putAt,mkA,qal,qay,qaC,qgI,qhY,qbP,AValue.dv]
   ·rw[if_pos ha] at hr;rw[←hr];simp[f4,f5,fg,qbP,AValue.dv]
end Go.Sim
end
end
section
namespace Go.Sim
def lsb {α:Type} (f:α→α→Bool):List α→List α→Bool
 | [],[]=>true
 |x::xs,y::ys=>f x y&&lsb f xs ys
 | _,_=>false
theorem qdD {α:Type} {f:α→α→Bool} (h : ∀x,f x x=true) : ∀l,lsb f l l=true
 | []=>rfl
 |x::l=>by simp[lsb,h,qdD h l]
def ibq (x y:Int):Bool:=x==y
theorem qcy (x:Int):ibq x x=true:=by simp[ibq]
def sbq (x y:List UInt8):Bool:=x==y
theorem qfq (x:List UInt8):sbq x x=true:=by simp[sbq]
def bbq (x y:Bool):Bool:=x==y
theorem qBP (x:Bool):bbq x x=true:=by simp[bbq]
mutual
def deq:DV→DV→Bool
 | .b x,.b y=>x==y
 | .i k n,.i k' m=>decide (k=k')&&decide (n=m)
 | .s x,.s y=>x==y
 | .a cs,.a ds=>qiP cs ds
 | .l _ es _,.l _ fs _=>qiP es fs
 | .np,.np=>true
 | .nf,.nf=>true
 | .ni,.ni=>true
 | .nm,.nm=>true
 | .ifc t v,.ifc t' w=>Nat.beq t t'&&deq v w
 | .tok n,.tok m=>Nat.beq n m
 | _,_=>false
def qiP:List DV→List DV→Bool
 | [],[]=>true
 |x::xs,y::ys=>deq x y&&qiP xs ys
 | _,_=>false
end
mutual
theorem qvW : ∀x,deq x x=true
 | .b x=>by simp[deq]
 | .i k n=>by simp[deq]
 | .s x=>by simp[deq]
 | .a cs=>by simp[deq,qmP cs]
 | .l k es t=>by simp[deq,qmP es]
 | .np=>rfl
 | .nf=>rfl
 | .ni=>rfl
 | .nm=>rfl
 | .ifc t v=>by simp[deq,qvW v]
 | .tok n=>by simp[deq]
theorem qmP : ∀x,qiP x x=true
 | []=>rfl
 |x::xs=>by simp[qiP,qvW x,qmP xs]
end
def AWide.beq (x y:AWide):Bool:=ibq x.Hi y.Hi&&ibq x.Lo y.Lo
theorem AWide.beq_refl (x:AWide):AWide.beq x x=true:=by
 simp only[AWide.beq,qcy,Bool.and_true]
def ACurrency.beq (x y:ACurrency):Bool:=sbq x.Code y.Code&&ibq x.Digits y.Digits
theorem ACurrency.beq_refl (x:ACurrency):ACurrency.beq x x=true:=by
 simp only[ACurrency.beq,qfq,qcy,Bool.and_true]
def ACalendar.beq (x y:ACalendar):Bool:=sbq x.Name y.Name&&lsb ibq x.Weekend.l y.Weekend.l&&lsb ibq x.Holidays.l y.Holidays.l
theorem ACalendar.beq_refl (x:ACalendar):ACalendar.beq x x=true:=by
 simp only[ACalendar.beq,qfq,qdD qcy,Bool.and_true]
def AVar.beq (x y:AVar):Bool:=sbq x.Name y.Name&&ibq x.Typ y.Typ
theorem AVar.beq_refl (x:AVar):AVar.beq x x=true:=by
 simp only[AVar.beq,qfq,qcy,Bool.and_true]
def ATier.beq (x y:ATier):Bool:=ibq x.From y.From&&ibq x.Ppm y.Ppm
theorem ATier.beq_refl (x:ATier):ATier.beq x x=true:=by
 simp only[ATier.beq,qcy,Bool.and_true]
def AInterest.beq (x y:AInterest):Bool:=lsb ATier.beq x.Tiers.l y.Tiers.l&&bbq x.Marginal y.Marginal&&ibq x.Basis y.Basis&&ibq x.Mode y.Mode&&bbq x.Keep y.Keep
theorem AInterest.beq_refl (x:AInterest):AInterest.beq x x=true:=by
 simp only[AInterest.beq,qdD ATier.beq_refl,qBP,qcy,Bool.and_true]
def AExpr.beq (x y:AExpr):Bool:=ibq x.Op y.Op&&ibq x.N y.N&&sbq x.S y.S&&qiP x.Args.l y.Args.l
theorem AExpr.beq_refl (x:AExpr):AExpr.beq x x=true:=by
 simp only[AExpr.beq,qcy,qfq,qmP,Bool.and_true]
def AFee.beq (x y:AFee):Bool:=sbq x.Name y.Name&&ibq x.Event y.Event&&AExpr.beq x.When y.When&&AExpr.beq x.Amount y.Amount
theorem AFee.beq_refl (x:AFee):AFee.beq x x=true:=by
 simp only[AFee.beq,qfq,qcy,AExpr.beq_refl,Bool.and_true]
def ARule.beq (x y:ARule):Bool:=sbq x.Name y.Name&&ibq x.Window y.Window&&AExpr.beq x.Amount y.Amount
theorem ARule.beq_refl (x:ARule):ARule.beq x x=true:=by
 simp only[ARule.beq,qfq,qcy,AExpr.beq_refl,Bool.and_true]
def AProduct.beq (x y:AProduct):Bool:=sbq x.Name y.Name&&sbq x.Currency y.Currency&&sbq x.Calendar y.Calendar&&ibq x.From y.From&&ibq x.Every y.Every&&ibq x.Overdraft y.Overdraft&&ibq x.TaxPpm y.TaxPpm&&AInterest.beq x.Credit y.Credit&&AInterest.beq x.Debit y.Debit&&lsb AFee.beq x.Fees.l y.Fees.l&&lsb ARule.beq x.Rules.l y.Rules.l
theorem AProduct.beq_refl (x:AProduct):AProduct.beq x x=true:=by
 simp only[AProduct.beq,qfq,qcy,AInterest.beq_refl,qdD AFee.beq_refl,qdD ARule.beq_refl,Bool.and_true]
def AGl.beq (x y:AGl):Bool:=ibq x.Id y.Id&&ibq x.Parent y.Parent&&ibq x.Kind y.Kind&&sbq x.Name y.Name
theorem AGl.beq_refl (x:AGl):AGl.beq x x=true:=by
 simp only[AGl.beq,qcy,qfq,Bool.and_true]
def ALeg.beq (x y:ALeg):Bool:=ibq x.Account y.Account&&ibq x.Amount y.Amount&&sbq x.Currency y.Currency
theorem ALeg.beq_refl (x:ALeg):ALeg.beq x x=true:=by
 simp only[ALeg.beq,qcy,qfq,Bool.and_true]
def AEntry.beq (x y:AEntry):Bool:=ibq x.Id y.Id&&ibq x.Booked y.Booked&&ibq x.Value y.Value&&ibq x.Kind y.Kind&&ibq x.Auth y.Auth&&ibq x.Period y.Period&&sbq x.Key y.Key&&sbq x.Text y.Text&&lsb ALeg.beq x.Legs.l y.Legs.l&&ibq x.Chain y.Chain
theorem AEntry.beq_refl (x:AEntry):AEntry.beq x x=true:=by
 simp only[AEntry.beq,qcy,qfq,qdD ALeg.beq_refl,Bool.and_true]
def AHold.beq (x y:AHold):Bool:=ibq x.Id y.Id&&ibq x.Account y.Account&&ibq x.Amount y.Amount&&ibq x.From y.From&&ibq x.To y.To&&sbq x.Key y.Key
theorem AHold.beq_refl (x:AHold):AHold.beq x x=true:=by
 simp only[AHold.beq,qcy,qfq,Bool.and_true]
def ABlock.beq (x y:ABlock):Bool:=ibq x.Id y.Id&&ibq x.Account y.Account&&ibq x.Kind y.Kind&&ibq x.Amount y.Amount&&ibq x.From y.From&&ibq x.To y.To&&sbq x.Source y.Source
theorem ABlock.beq_refl (x:ABlock):ABlock.beq x x=true:=by
 simp only[ABlock.beq,qcy,qfq,Bool.and_true]
def AAccount.beq (x y:AAccount):Bool:=ibq x.Id y.Id&&ibq x.Opened y.Opened&&ibq x.Closed y.Closed&&ibq x.Extra y.Extra&&sbq x.Owner y.Owner&&sbq x.Product y.Product&&sbq x.Number y.Number
theorem AAccount.beq_refl (x:AAccount):AAccount.beq x x=true:=by
 simp only[AAccount.beq,qcy,qfq,Bool.and_true]
def APlan.beq (x y:APlan):Bool:=ibq x.Cash y.Cash&&ibq x.Deposits y.Deposits&&ibq x.InterestPaid y.InterestPaid&&ibq x.InterestEarned y.InterestEarned&&ibq x.FeeEarned y.FeeEarned&&ibq x.Tax y.Tax&&ibq x.Clearing y.Clearing&&ibq x.Loans y.Loans&&ibq x.LoanInterest y.LoanInterest&&ibq x.Penalty y.Penalty&&ibq x.Provision y.Provision&&ibq x.ProvisionCost y.ProvisionCost&&ibq x.Loss y.Loss&&ibq x.Recovery y.Recovery
theorem APlan.beq_refl (x:APlan):APlan.beq x x=true:=by
 simp only[APlan.beq,qcy,Bool.and_true]
def ABooks.beq (x y:ABooks):Bool:=lsb ACurrency.beq x.Currencies.l y.Currencies.l&&lsb ACalendar.beq x.Calendars.l y.Calendars.l&&lsb AGl.beq x.Chart.l y.Chart.l&&APlan.beq x.Plan y.Plan&&lsb AProduct.beq x.Products.l y.Products.l&&lsb AAccount.beq x.Accounts.l y.Accounts.l&&lsb AEntry.beq x.Journal.l y.Journal.l&&lsb AHold.beq x.Holds.l y.Holds.l&&lsb ABlock.beq x.Blocks.l y.Blocks.l
theorem ABooks.beq_refl (x:ABooks):ABooks.beq x x=true:=by
 simp only[ABooks.beq,qdD ACurrency.beq_refl,qdD ACalendar.beq_refl,qdD AGl.beq_refl,APlan.beq_refl,qdD AProduct.beq_refl,qdD AAccount.beq_refl,qdD AEntry.beq_refl,qdD AHold.beq_refl,qdD ABlock.beq_refl,Bool.and_true]
def AValue.beq (x y:AValue):Bool:=ibq x.Typ y.Typ&&ibq x.N y.N
theorem AValue.beq_refl (x:AValue):AValue.beq x x=true:=by
 simp only[AValue.beq,qcy,Bool.and_true]
end Go.Sim
end
section
open Go.Sim
attribute [local simp ↓] qeK qda qe3 qej qd4 qd3 qeP qde sqK blK lpK qdp qd1 qdh qdS qe4 qd6 qdV qd8 qdt qe0 qdc qdw qem qdH qes qer qdf qeD qea qeq qd2 qdU qeZ qdn qeL qeG qep qdi qc7 qeS qd7 qe5 qc9 qd9 qex qek qd5 qco qcE qdC qdX qdM qcV qdN qc8 qcU qeA qdr qds qec qei qc4 qeO qc5 qeV qdk qef qed qeH qdW qdy qdb qdZ qe1 qeE qc0 qcY qet qcZ qcx qdu qcQ qcW qdx qcs qeU qeC qev qd0 qeX qeg qdQ qeu qdv qdJ qdK qeJ qeR qdY qeI qfo qfH qfA qfV qfE qfS qfC qfD qfx qfO qfP qfJ qgB qfc
attribute [local simp] qcA qdm qdI qeo qey qdq qdG qdF qdL qeb qdB rd IOp.adds qap gh nid rgK rdS qeF qdO qeB qee qdR qdP qe7 qdE qeN qew qeY qeT qeh qeM qeQ qe6 qez qdz qe2 qel qdo qfl qfs qfm qfa qft qfd qfr qfG qfW qfB qfF
section
namespace Go.Sim
theorem qDp {e:DV} (h:XE e) : ∃a:AExpr,e=a.dv∧a.ok:=by
 cases h with
 |mk o n s a h1 h2 h3 h4 =>
  cases h4 with
  |mk es h5 h6 h7=>exact⟨⟨o,n,s,⟨es,false⟩⟩,rfl,h1,h2,h3,.mk es h5 h6 h7⟩
theorem qtB {es:List DV} {t:Bool} (h:XL (.l (K1 4) es t)):es.length≤maxLen∧∃l:List AExpr,es=l.map AExpr.dv∧∀a∈l,a.ok:=by
 cases h with
 |mk _ h5 h6=>exact⟨h5,qmX fun e he=>qDp (h6 e he)⟩
theorem qEN {x a:AExpr} (h:a.dv∈x.Args.l):SizeOf.sizeOf a.dv<SizeOf.sizeOf x.dv:=by
 have h1:=List.sizeOf_lt_of_mem h
 have h2:SizeOf.sizeOf x.Args.l<SizeOf.sizeOf x.dv:=by
  simp only[AExpr.dv,DV.a.sizeOf_spec,List.cons.sizeOf_spec,DV.l.sizeOf_spec];omega
 omega
end Go.Sim
end
end
section
namespace Go.Sim
def tabV:PT :=
 (.bin 879 qkp (.bin 71 F71 (.bin 65 F65 (.bin 39 F39 (.bin 22 F22 .nil .nil) .nil) (.bin 66 F66 .nil .nil)) (.bin 708 qkF (.bin 265 qiu (.bin 72 F72 .nil .nil) .nil) (.bin 801 qg5 .nil .nil))) (.bin 884 qjQ (.bin 882 qks (.bin 881 qlz (.bin 880 qjr .nil .nil) .nil) (.bin 883 qjU .nil .nil)) (.bin 933 qkj (.bin 885 qlp .nil .nil) (.bin 934 qj7 .nil .nil))))
abbrev HV (T:Tab):Prop:=∀n F,tabV.get n=some F→T.F n=some F
end Go.Sim
end
section
open Go.Sim
attribute [local simp ↓] qeK qda qe3 qej qd4 qd3 qeP qde sqK blK lpK qdp qd1 qdh qdS qe4 qd6 qdV qd8 qdt qe0 qdc qdw qem qdH qes qer qdf qeD qea qeq qd2 qdU qeZ qdn qeL qeG qep qdi qc7 qeS qd7 qe5 qc9 qd9 qex qek qd5 qco qcE qdC qdX qdM qcV qdN qc8 qcU qeA qdr qds qec qei qc4 qeO qc5 qeV qdk qef qed qeH qdW qdy qdb qdZ qe1 qeE qc0 qcY qet qcZ qcx qdu qcQ qcW qdx qcs qeU qeC qev qd0 qeX qeg qdQ qeu qdv qdJ qdK qeJ qeR qdY qeI qfo qfH qfA qfV qfE qfS qfC qfD qfx qfO qfP qfJ qgB qfc
attribute [local simp] qcA qdm qdI qeo qey qdq qdG qdF qdL qeb qdB rd IOp.adds qap gh nid rgK rdS qeF qdO qeB qee qdR qdP qe7 qdE qeN qew qeY qeT qeh qeM qeQ qe6 qez qdz qe2 qel qdo qfl qfs qfm qfa qft qfd qfr qfG qfW qfB qfF
section
namespace Go.Sim
set_option maxRecDepth 10000
set_option maxHeartbeats 4000000
def qbW (d:Int):Bool:=decide (0≤d)&&decide (d≤73048)
def qg0 (y:Int):Bool:=(y.tmod 4==0)&&((y.tmod 100 != 0)||(y.tmod 400==0))
def lnI (y m:Int):Int:=if m=2 then (if qg0 y=true then 29 else 28) else if m=4∨m=6∨m=9∨m=11 then 30 else if m=1∨m=3∨m=5∨m=7∨m=8∨m=10∨m=12 then 31 else 0
def bgI (y:Int):Int:=365*(y-2000)+(y-2000+3)/4-(if 2100<y then 1 else 0)
def cmI (y:Int):Nat→Int
 | 0=>0
 |n+1=>cmI y n+lnI y (1+n)
theorem qnh (T:Tab) (hT:HV T) (d:Int):T.val 22 [I d]=some (.d (.b (qbW d)),false):=by
 rw[qae T (hT 22 F22 rfl) rfl];simp[F22,Fr.ofArgs,qbW];repeat' (refine qa9 (fun h => ?_) (fun h => ?_)<;>(try simp at h)<;>(try simp[h]))
 all_goals omega
theorem qEv (T:Tab) (hT:HV T) (y:Int):T.val 66 [I y]=some (.d (.b (qg0 y)),false):=by
 rw[qae T (hT 66 F66 rfl) rfl];simp[F66,Fr.ofArgs,qg0];repeat' (refine qa9 (fun h => ?_) (fun h => ?_)<;>(try simp at h)<;>(try simp[h]))
 all_goals simp_all
theorem qmV (T:Tab) (hT:HV T) (y:Int) (h1:2000≤y) (h2:y≤3000):T.val 71 [I y]=some (.d (I (bgI y)),false):=by
 rw[qae T (hT 71 F71 rfl) rfl];have w1:IntKind.i64.wrap (y-2000)=y-2000:=wrI (by omega) (by omega)
 have w2:IntKind.i64.wrap (y-2000+3)=y-2000+3:=wrI (by omega) (by omega)
 have q:(y-2000+3).tdiv 4=(y-2000+3)/4:=Int.tdiv_eq_ediv_of_nonneg (by omega)
 have w3:IntKind.i64.wrap ((y-2000+3)/4)=(y-2000+3)/4:=wrI (by omega) (by omega)
 have w4:IntKind.i64.wrap (365*(y-2000))=365*(y-2000):=wrI (by omega) (by omega)
 have w5:IntKind.i64.wrap ((y-2000+3)/4-1)=(y-2000+3)/4-1:=wrI (by omega) (by omega)
 have w6:IntKind.i64.wrap (365*(y-2000)+((y-2000+3)/4-1))=365*(y-2000)+((y-2000+3)/4-1):=wrI (by omega) (by omega)
 have w7:IntKind.i64.wrap (365*(y-2000)+(y-2000+3)/4)=365*(y-2000)+(y-2000+3)/4:=wrI (by omega) (by omega)
 simp[F71,Fr.ofArgs,w1,w2,q,w3];repeat' (refine qa9 (fun h => ?_) (fun h => ?_)<;>(try simp at h)<;>(try simp[w1,q,w3,w4,w5,w6,w7]))
 all_goals
  simp_all[bgI]
  try omega
theorem qzp {R:Type} {y:List PV→Option R}:bo (qcK [PV.d (I 0),PV.d (I 0),PV.d (I 0),PV.d (I 0),PV.d (I 0),PV.d (I 0),PV.d (I 0),PV.d (I 0),PV.d (I 0),PV.d (I 0),PV.d (I 0),PV.d (I 0),PV.d (I 0)] [(0,K0,.d (I 0)),(1,K0,.d (I 31)),(2,K0,.d (I 28)),(3,K0,.d (I 31)),(4,K0,.d (I 30)),(5,K0,.d (I 31)),(6,K0,.d (I 30)),(7,K0,.d (I 31)),(8,K0,.d (I 31)),(9,K0,.d (I 30)),(10,K0,.d (I 31)),(11,K0,.d (I 30)),(12,K0,.d (I 31))]) (.h y)=y [.d (I 0),.d (I 31),.d (I 28),.d (I 31),.d (I 30),.d (I 31),.d (I 30),.d (I 31),.d (I 31),.d (I 30),.d (I 31),.d (I 30),.d (I 31)]:=rfl
theorem qzB:mkA [.d (I 0),.d (I 31),.d (I 28),.d (I 31),.d (I 30),.d (I 31),.d (I 30),.d (I 31),.d (I 31),.d (I 30),.d (I 31),.d (I 30),.d (I 31)] = .d (.a [I 0,I 31,I 28,I 31,I 30,I 31,I 30,I 31,I 31,I 30,I 31,I 30,I 31]):=rfl
theorem qmp (T:Tab) (hT:HV T) (y m:Int) (h1:1≤m) (h2:m≤12):T.val 72 [I y,I m]=some (.d (I (lnI y m)),false):=by
 rw[qae T (hT 72 F72 rfl) rfl];have e:=qEv T hT y
 have g:([I 0,I 31,I 28,I 31,I 30,I 31,I 30,I 31,I 31,I 30,I 31,I 30,I 31]:List DV)[m.toNat]? = some (I (if m=2 then 28 else lnI y m)):=by
  have:m=1∨m=2∨m=3∨m=4∨m=5∨m=6∨m=7∨m=8∨m=9∨m=10∨m=11∨m=12:=by omega
  rcases this with rfl|rfl|rfl|rfl|rfl|rfl|rfl|rfl|rfl|rfl|rfl|rfl<;>rfl
 have h3:0≤m:=by omega
 have h4:m<13:=by omega
 have h5:m.toNat<13:=by omega
 simp[F72,Fr.ofArgs,qaD,qzp,qzB];repeat' (refine qa9 (fun h => ?_) (fun h => ?_)<;>(try simp at h)<;>(try simp[h,e,qDA,qsg,h3,h4,h5,qay,DV.cells]))
 all_goals simp_all[lnI]
theorem qon {g:Nat→Int} {x:Int} : ∀(N:Nat),g 0≤x→x<g N→∃n,n<N∧g n≤x∧x<g (n+1)
 | 0,h0,h1=>absurd h1 (by omega)
 |N+1,h0,h1=>by
  by_cases h:x<g N
  ·obtain⟨n,a,b,c⟩:=qon N h0 h;exact⟨n,by omega,b,c⟩
  ·exact⟨N,by omega,by omega,h1⟩
theorem qDm {y:Int} (h1:2000≤y) (h2:y<2200):qg0 y=true↔(y%4=0∧y≠2100):=by
 unfold qg0;rw[Int.tmod_eq_emod_of_nonneg (by omega),Int.tmod_eq_emod_of_nonneg (by omega),Int.tmod_eq_emod_of_nonneg (by omega)]
 simp only[zzf,Bool.or_eq_true,beq_iff_eq,bne_iff_ne,ne_eq];omega
theorem qxt {y:Int} (h1:2000≤y) (h2:y<2200):bgI (y+1)=bgI y+(if qg0 y=true then 366 else 365):=by
 have h:=qDm h1 h2
 unfold bgI;by_cases g:qg0 y=true
 ·rw[if_pos g];have:=h.1 g;split<;>split<;>omega
 ·rw[if_neg g];have : ¬(y%4=0∧y≠2100):=fun q=>g (h.2 q)
  split<;>split<;>omega
theorem qE9 (y:Int):cmI y 12=if qg0 y=true then 366 else 365:=by
 simp only[cmI,lnI];cases qg0 y<;>simp
def Civ (d:Int) (n m:Nat):Prop:=n<200∧bgI (2000+n)≤d∧d<bgI (2000+n+1)∧m<12∧cmI (2000+n) m≤d-bgI (2000+n)∧d-bgI (2000+n)<cmI (2000+n) (m+1)
theorem qkm {d:Int} (h:qbW d=true) : ∃n m,Civ d n m:=by
 simp only[qbW,zzf,zzq] at h;obtain⟨n,h1,h2,h3⟩:=qon (g:=fun n=>bgI (2000+n)) (x:=d) 200 (by simp[bgI];omega) (by simp[bgI];omega)
 have h3':d<bgI (2000+n+1):=by simpa[Int.add_assoc] using h3
 have h4:=qxt (y:=2000+n) (by omega) (by omega)
 obtain⟨m,h5,h6,h7⟩:=qon (g:=cmI (2000+n)) (x:=d-bgI (2000+n)) 12 (by simp only[cmI];omega) (by rw[qE9];omega)
 exact⟨n,m,h1,h2,h3',h5,h6,h7⟩
theorem qiX {y:Int} {m:Int} (h1:1≤m) (h2:m≤12):28≤lnI y m∧lnI y m≤31:=by
 unfold lnI;(repeat' split)<;>omega
theorem qlV (y:Int) : ∀{a b:Nat},a≤b→b≤12→cmI y a≤cmI y b
 |a,0,h,_=>by
  obtain rfl:a=0:=by omega
  exact Int.le_refl _
 |a,b+1,h,hb=>by
  by_cases e:a=b+1
  ·subst e;exact Int.le_refl _
  ·have:=qlV y (a:=a) (b:=b) (by omega) (by omega)
   have:=qiX (y:=y) (m:=1+b) (by omega) (by omega)
   simp only[cmI];omega
theorem qjA {a b:Nat} (h:a≤b):bgI (2000+a)≤bgI (2000+b):=by
 unfold bgI;split<;>split<;>omega
end Go.Sim
end
section
namespace Go.Sim
set_option maxRecDepth 10000
set_option maxHeartbeats 4000000
theorem bg0:bgI 2000=0:=by decide
theorem qpp {d:Int} {n m:Nat} (h:Civ d n m):0≤d∧d≤73048:=by
 obtain⟨h1,h2,h3,-⟩:=h
 have:=qjA (a:=0) (b:=n) (by omega)
 have b:=qjA (a:=n+1) (b:=200) (by omega)
 have e:bgI (2000+(200:Nat))=73049:=by decide
 have e0:bgI (2000+(0:Nat))=0:=by decide
 rw[show (2000:Int)+((n+1:Nat):Int)=2000+n+1 by omega] at b
 omega
theorem qFM (T:Tab) (hT:HV T) (d:Int) (n m:Nat) (h:Civ d n m) {k:KC (PV×Bool)} {fr:Fr} {H:Heap} (h0:gc [0,5] 0 ⟨fr,H⟩=⟨[(5,.d (I (2000+d/366))),(0,.d (I d))],[]⟩) :
  kC T.env 0 fr H (.h (.loop [0,5] qmF,k))=k (.exit 0) [(17,.d (.b false)),(5,.d (I (2000+n))),(0,.d (I d))] []:=by
 obtain⟨hp,hp2⟩:=qpp h;obtain⟨h1,h2,h3,-⟩:=h;obtain⟨q,hq⟩ : ∃q:Nat,(q:Int)=d/366:=⟨(d/366).toNat,by omega⟩
 have hqd:bgI (2000+q)≤d:=by unfold bgI;split<;>omega
 have hqn:q≤n:=by
  by_cases g:q≤n
  ·exact g
  ·have:=qjA (a:=n+1) (b:=q) (by omega)
   rw[show (2000:Int)+((n+1:Nat):Int)=2000+n+1 by omega] at this
   omega
 refine qhL (fun y:Int=>⟨[(5,.d (I y)),(0,.d (I d))],[]⟩) (fun i=>2000+((q+i:Nat):Int)) (n-q) ?_ ?_ (by rw[h0,←hq];simp)
 ·intro B _;simp only[Nat.add_sub_cancel' hqn];have w:IntKind.i64.wrap (2000+(n:Int)+1)=2000+n+1:=wrI (by omega) (by omega)
  have e:=qmV T hT (2000+n+1) (by omega) (by omega)
  have g : ¬bgI (2000+n+1)≤d:=by omega
  simp[qmF,w,e,g]
 ·intro B _ i hi c hc;obtain⟨z,hz⟩ : ∃z:Int,2000+((q+i:Nat):Int)=z:=⟨_,rfl⟩;have hz':2000+((q+(i+1):Nat):Int)=z+1:=by omega
  have b:=qjA (a:=q+(i+1)) (b:=n) (by omega)
  simp only[hz'] at hc b;simp only[hz];have w:IntKind.i64.wrap (z+1)=z+1:=wrI (by omega) (by omega)
  have e:=qmV T hT (z+1) (by omega) (by omega)
  have g:bgI (z+1)≤d:=by omega
  simp[qmF,w,e,g];exact hc _ _ (by simp[gc,Fr.keep,qad,qac,qab,PV.refs,gcH,PV.ren,Obj.ren,Heap.obj,Fr.ren,gh])
theorem qyc (T:Tab) (hT:HV T) (d:Int) (n m:Nat) (h:Civ d n m) {k:KC (PV×Bool)} {fr:Fr} {H:Heap} (h0:gc [0,5,6] 0 ⟨fr,H⟩=⟨[(6,.d (I 1)),(5,.d (I (2000+n))),(0,.d (I (d-bgI (2000+n))))],[]⟩) :
  kC T.env 0 fr H (.h (.loop [0,5,6] qnF,k))=k (.exit 2) [(28,.d (.b false)),(6,.d (I (1+m))),(5,.d (I (2000+n))),(0,.d (I (d-bgI (2000+n)-cmI (2000+n) m)))] []:=by
 obtain⟨hp,hp2⟩:=qpp h;obtain⟨h1,h2,h3,h4,h5,h6⟩:=h;generalize hy:(2000:Int)+n=y at *
 have hb:=qjA (a:=0) (b:=n) (by omega)
 rw[hy,show (2000:Int)+((0:Nat):Int)=2000 by simp,bg0] at hb
 refine qhL (fun s:Int×Int=>⟨[(6,.d (I s.1)),(5,.d (I y)),(0,.d (I s.2))],[]⟩) (fun i=>(1+(i:Int),d-bgI y-cmI y i)) m ?_ ?_ (by rw[h0];simp[cmI])
 ·intro B _;have e:=qmp T hT y (1+m) (by omega) (by omega)
  have g : ¬lnI y (1+m)≤d-bgI y-cmI y m:=by simp only[cmI] at h6;omega
  simp[qnF,e,g]
 ·intro B _ i hi c hc;have e:=qmp T hT y (1+i) (by omega) (by omega)
  have l:=qlV y (a:=i+1) (b:=m) (by omega) (by omega)
  have l0:=qlV y (a:=0) (b:=i+1) (by omega) (by omega)
  simp only[cmI] at l l0;have g:lnI y (1+i)≤d-bgI y-cmI y i:=by omega
  have w:IntKind.i64.wrap (1+(i:Int)+1)=1+(i:Int)+1:=wrI (by omega) (by omega)
  have w2:IntKind.i64.wrap (d-bgI y-cmI y i-lnI y (1+i))=d-bgI y-cmI y (i+1):=by
   have:=qiX (y:=y) (m:=1+i) (by omega) (by omega)
   rw[wrI (by omega) (by omega)];simp only[cmI];omega
  simp[qnF,w,e,g,w2];exact hc _ _ (by simp[gc,Fr.keep,qad,qac,qab,PV.refs,gcH,PV.ren,Obj.ren,Heap.obj,Fr.ren,gh];omega)
theorem qyx (T:Tab) (hT:HV T) (d:Int) (n m:Nat) (h:Civ d n m):T.val 65 [I d]=some (.t [.d (I (2000+n)),.d (I (1+m)),.d (I (d-bgI (2000+n)-cmI (2000+n) m+1))],false):=by
 rw[qae T (hT 65 F65 rfl) rfl];obtain⟨hp,hp2⟩:=qpp h;have hv:qbW d=true:=by simp[qbW,hp,hp2]
 have e:=qnh T hT d
 have q:d.tdiv 366=d/366:=Int.tdiv_eq_ediv_of_nonneg hp
 have w1:IntKind.i64.wrap (d/366)=d/366:=wrI (by omega) (by omega)
 have w2:IntKind.i64.wrap (2000+d/366)=2000+d/366:=wrI (by omega) (by omega)
 rw[hv] at e;have lp:=fun k fr H => @qFM T hT d n m h k fr H
 have lp2:=fun k fr H => @qyc T hT d n m h k fr H
 have e2:=qmV T hT (2000+n) (by omega) (by have:=h.1;omega)
 have hb:=qjA (a:=0) (b:=n) (by omega)
 rw[show (2000:Int)+((0:Nat):Int)=2000 by simp,bg0] at hb
 have h2:=h.2.1
 have w3:IntKind.i64.wrap (d-bgI (2000+n))=d-bgI (2000+n):=wrI (by omega) (by omega)
 have l0:=qlV (2000+n) (a:=0) (b:=m) (by omega) (by have:=h.2.2.2.1;omega)
 have h5:=h.2.2.2.2.1
 simp only[cmI] at l0;have w4:IntKind.i64.wrap (d-bgI (2000+n)-cmI (2000+n) m+1)=d-bgI (2000+n)-cmI (2000+n) m+1:=wrI (by omega) (by omega)
 simp[F65,Fr.ofArgs,e,q,w1,w2];refine (lp _ _ _ (by simp[gc,Fr.keep,qad,qac,qab,PV.refs,gcH,PV.ren,Obj.ren,Heap.obj,Fr.ren,gh])).trans ?_
 simp[e2,w3];refine (lp2 _ _ _ (by simp[gc,Fr.keep,qad,qac,qab,PV.refs,gcH,PV.ren,Obj.ren,Heap.obj,Fr.ren,gh])).trans ?_
 simp[w4];try rfl
end Go.Sim
end
end
section
open Go.Sim
attribute [local simp ↓] qeK qda qe3 qej qd4 qd3 qeP qde sqK blK lpK qdp qd1 qdh qdS qe4 qd6 qdV qd8 qdt qe0 qdc qdw qem qdH qes qer qdf qeD qea qeq qd2 qdU qeZ qdn qeL qeG qep qdi qc7 qeS qd7 qe5 qc9 qd9 qex qek qd5 qco qcE qdC qdX qdM qcV qdN qc8 qcU qeA qdr qds qec qei qc4 qeO qc5 qeV qdk qef qed qeH qdW qdy qdb qdZ qe1 qeE qc0 qcY qet qcZ qcx qdu qcQ qcW qdx qcs qeU qeC qev qd0 qeX qeg qdQ qeu qdv qdJ qdK qeJ qeR qdY qeI qfo qfH qfA qfV qfE qfS qfC qfD qfx qfO qfP qfJ
attribute [local simp] qcA qdm qdI qeo qey qdq qdG qdF qdL qeb qdB rd IOp.adds qap gh nid rgK rdS qeF qdO qeB qee qdR qdP qe7 qdE qeN qew qeY qeT qeh qeM qeQ qe6 qez qdz qe2 qel qdo qfl qfs qfm qfa qft qfd qfr qfG qfW qfB qfF
section
namespace Go.Sim
set_option maxRecDepth 10000
set_option maxHeartbeats 4000000
end Go.Sim
end
section
namespace Go.Sim
set_option maxRecDepth 10000
set_option maxHeartbeats 4000000
end Go.Sim
end
end
section
open Go.Sim
attribute [local simp ↓] qeK qda qe3 qej qd4 qd3 qeP qde sqK blK lpK qdp qd1 qdh qdS qe4 qd6 qdV qd8 qdt qe0 qdc qdw qem qdH qes qer qdf qeD qea qeq qd2 qdU qeZ qdn qeL qeG qep qdi qc7 qeS qd7 qe5 qc9 qd9 qex qek qd5 qco qcE qdC qdX qdM qcV qdN qc8 qcU qeA qdr qds qec qei qc4 qeO qc5 qeV qdk qef qed qeH qdW qdy qdb qdZ qe1 qeE qc0 qcY qet qcZ qcx qdu qcQ qcW qdx qcs qeU qeC qev qd0 qeX qeg qdQ qeu qdv qdJ qdK qeJ qeR qdY qeI qfo qfH qfA qfV qfE qfS qfC qfD qfx qfO qfP qfJ qgB qfc
attribute [local simp] qcA qdm qdI qeo qey qdq qdG qdF qdL qeb qdB rd IOp.adds qap gh nid rgK rdS qeF qdO qeB qee qdR qdP qe7 qdE qeN qew qeY qeT qeh qeM qeQ qe6 qez qdz qe2 qel qdo qfl qfs qfm qfa qft qfd qfr qfG qfW qfB qfF
section
namespace Go.Sim
set_option maxRecDepth 10000
set_option maxHeartbeats 4000000
theorem qsA {y:Int} (h:2000≤y) (h2:y≤2200):0≤bgI y∧bgI y≤73049:=by
 unfold bgI;split<;>omega
theorem qty (y:Int) : ∀m:Nat,m≤12→0≤cmI y m∧cmI y m≤31*m
 | 0,_=>⟨Int.le_refl _,Int.le_refl _⟩
 |m+1,h=>by
  have:=qty y m (by omega)
  have:=qiX (y:=y) (m:=1+m) (by omega) (by omega)
  simp only[cmI];omega
theorem qFJ (T:Tab) (hT:HV T) (y d:Int) (m:Nat) (hm:m<12) (hy:2000≤y) (hy2:y≤2200) (hd:0≤d) (hd2:d<1000) {k:KC (PV×Bool)} {fr:Fr} {H:Heap} (h0:gc [0,1,8,9] 0 ⟨fr,H⟩=⟨[(9,.d (I 1)),(8,.d (I (bgI y+d))),(1,.d (I (1+m))),(0,.d (I y))],[]⟩) :
  kC T.env 0 fr H (.h (.loop [0,1,8,9] qnD,k))=k (.exit 0) [(42,.d (.b false)),(9,.d (I (1+m))),(8,.d (I (bgI y+d+cmI y m))),(1,.d (I (1+m))),(0,.d (I y))] []:=by
 have hb:=qsA hy hy2
 refine qhL (fun s:Int×Int=>⟨[(9,.d (I s.1)),(8,.d (I s.2)),(1,.d (I (1+m))),(0,.d (I y))],[]⟩) (fun i=>(1+(i:Int),bgI y+d+cmI y i)) m ?_ ?_ (by rw[h0];simp[cmI])
 ·intro B _;simp[qnD]
 ·intro B _ i hi c hc;have e:=qmp T hT y (1+i) (by omega) (by omega)
  have g:(1:Int)+i<1+m:=by omega
  have g2:((i:Int)<m):=by omega
  have w:IntKind.i64.wrap (1+(i:Int)+1)=1+(i:Int)+1:=wrI (by omega) (by omega)
  have w2:IntKind.i64.wrap (bgI y+d+cmI y i+lnI y (1+i))=bgI y+d+cmI y (i+1):=by
   have:=qiX (y:=y) (m:=1+i) (by omega) (by omega)
   have:=qty y i (by omega)
   rw[wrI (by omega) (by omega)];simp only[cmI];omega
  simp[qnD,w,e,g,w2];exact hc _ _ (by simp[gc,Fr.keep,qad,qac,qab,PV.refs,gcH,PV.ren,Obj.ren,Heap.obj,Fr.ren,gh];omega)
theorem qBb (T:Tab) (hT:HV T) (y d:Int) (m:Nat) (hm:m<12) (hy:2000≤y) (hy2:y<2200) (hd:1≤d) (hd2:d≤lnI y (1+m)):T.val 933 [I y,I (1+m),I d]=some (.t [.d (I (bgI y+(d-1)+cmI y m)),.d (I 0)],false):=by
 rw[qae T (hT 933 qkj rfl) rfl];have l:=qiX (y:=y) (m:=1+m) (by omega) (by omega)
 have hb:=qsA hy (by omega)
 have g1 : ¬y<2000:=by omega
 have g2 : ¬2199<y:=by omega
 have g3 : ¬(1+(m:Int)<1):=by omega
 have g4 : ¬(12<1+(m:Int)):=by omega
 have g5 : ¬d<1:=by omega
 have g6 : ¬lnI y (1+m)<d:=by omega
 have e:=qmp T hT y (1+m) (by omega) (by omega)
 have e2:=qmV T hT y hy (by omega)
 have w1:IntKind.i64.wrap (bgI y+d)=bgI y+d:=wrI (by omega) (by omega)
 have w2:IntKind.i64.wrap (bgI y+d-1)=bgI y+(d-1):=by rw[wrI (by omega) (by omega)];omega
 have lp:=fun k fr H => @qFJ T hT y (d-1) m hm hy (by omega) (by omega) (by omega) k fr H
 simp[qkj,Fr.ofArgs,g1,g2,g3,g4,g5,g6,e,e2,w1,w2];refine (lp _ _ _ (by simp[gc,Fr.keep,qad,qac,qab,PV.refs,gcH,PV.ren,Obj.ren,Heap.obj,Fr.ren,gh])).trans ?_
 simp
theorem qsd (T:Tab) (hT:HV T) (d:Int) (n m:Nat) (h:Civ d n m):T.val 879 [I d]=some (.d (I (bgI (2000+n)+cmI (2000+n) m)),false):=by
 rw[qae T (hT 879 qkp rfl) rfl];have e:=qyx T hT d n m h
 obtain⟨h1,h2,h3,h4,h5,h6⟩:=h;have l:=qiX (y:=2000+n) (m:=1+m) (by omega) (by omega)
 have e2:=qBb T hT (2000+n) 1 m h4 (by omega) (by omega) (by omega) (by omega)
 simp[qkp,Fr.ofArgs,e,e2]
noncomputable def mst (d:Int):Int:=if h:qbW d=true then bgI (2000+(Classical.choose (qkm h):Nat))+cmI (2000+(Classical.choose (qkm h):Nat)) (Classical.choose (Classical.choose_spec (qkm h))) else 0
theorem qEu {d:Int} (h:qbW d=true) : ∃n m,Civ d n m∧mst d=bgI (2000+n)+cmI (2000+n) m:=by
 refine⟨_,_,Classical.choose_spec (Classical.choose_spec (qkm h)),?_⟩;simp only[mst,h,dite_true]
theorem qxZ (T:Tab) (hT:HV T) (d:Int) (h:qbW d=true):T.val 879 [I d]=some (.d (I (mst d)),false):=by
 obtain⟨n,m,h1,e⟩:=qEu h;rw[e];exact qsd T hT d n m h1
def qjW (b:ABooks) (id day:Int):Bool:=match qfu b id with
 |none=>false
 |some a=>decide (a.Opened≤day)&&((a.Closed==0)||decide (day<a.Closed))
theorem qtz (T:Tab) (hT:HV T) (hU:HU T) (b:ABooks) (id day:Int) (hb:b.ok):T.val 39 [b.dv,I id,I day]=some (.d (.b (qjW b id day)),false):=by
 rw[qae T (hT 39 F39 rfl) rfl];have e:=qkd T hU b id hb
 unfold qjW;cases hf:qfu b id with
 |none =>
  rw[hf] at e;simp only[Option.getD_none,Option.isSome_none] at e;simp[F39,Fr.ofArgs,e]
 |some a =>
  rw[hf] at e;simp only[Option.getD_some,Option.isSome_some] at e;simp[F39,Fr.ofArgs,e];repeat' (refine qa9 (fun h => ?_) (fun h => ?_)<;>(try simp at h)<;>(try simp[h]))
  all_goals (first|(simp_all;done)|omega)
end Go.Sim
end
section
namespace Go.Sim
set_option maxRecDepth 10000
set_option maxHeartbeats 4000000
def qcp (acc:Int) (_:Nat) (n:Int) (x:ALeg):Int:=if (x.Account==acc)=true then w64 (n-x.Amount) else n
def qmA (acc:Int) (e:AEntry):Int:=qaj (qcp acc) 0 0 e.Legs.l
def qho (acc:Int) (_:Nat) (n:Int) (x:ALeg):Int:=if (x.Account==acc)=true then w64 (n+x.Amount) else n
def qox (acc:Int) (e:AEntry):Int:=qaj (qho acc) 0 0 e.Legs.l
def ql1 (acc:Int) (_:Nat) (n:Int) (e:AEntry):Int:=w64 (n+qmA acc e)
def ofR (j:List AEntry) (acc:Int):Int:=qaj (ql1 acc) 0 0 j
def qmQ (e:AEntry):Bool:=e.Auth==0&&(e.Kind==2||e.Kind==3||e.Kind==9||e.Kind==14)
theorem qwm (T:Tab) (hT:HU T) (e:AEntry):T.val 949 [e.dv]=some (.d (.b (qmQ e)),false):=by
  rw[qae T (hT 949 qlI rfl) rfl];simp[qlI,Fr.ofArgs];repeat' (refine qa9 (fun h => ?_) (fun h => ?_)<;>(try simp at h)<;>(try simp[h]))
  all_goals simp_all[qmQ]
end Go.Sim
end
section
namespace Go.Sim
set_option maxRecDepth 10000
set_option maxHeartbeats 4000000
theorem qz0 (T:Tab) (l:List AEntry) (t:Bool) (acc frm upto:Int) (oi s:Int) (e:AEntry) (hn:e.Legs.l.length≤maxLen) {k:KC (PV×Bool)} {fr:Fr} {H:Heap} (h0:gc [1,2,3,9,12,16,17,18,38,39,40] 0 ⟨fr,H⟩=⟨[(40,(.d (I (0:Int)))),(39,(.d (I e.Legs.l.length))),(38,(.d (.l (K1 3) (e.Legs.l.map ALeg.dv) e.Legs.t))),(18,(.d (I oi))),(17,(.d (I l.length))),(16,(.d (.l (K1 10) (l.map AEntry.dv) t))),(12,(.d (I 0))),(9,(.d (I s))),(3,(.d (I upto))),(2,(.d (I frm))),(1,(.d (I acc)))],[]⟩) :
    kC T.env 0 fr H (.h (.loop [1,2,3,9,12,16,17,18,38,39,40] qmZ,k))=k (.exit 2) [(41,.d (.b false)),(40,(.d (I (e.Legs.l.length:Int)))),(39,(.d (I e.Legs.l.length))),(38,(.d (.l (K1 3) (e.Legs.l.map ALeg.dv) e.Legs.t))),(18,(.d (I oi))),(17,(.d (I l.length))),(16,(.d (.l (K1 10) (l.map AEntry.dv) t))),(12,(.d (I (qaj (qho acc) 0 0 e.Legs.l)))),(9,(.d (I s))),(3,(.d (I upto))),(2,(.d (I frm))),(1,(.d (I acc)))] []:=by
  rw[qb1 e.Legs.l (fun i (b:Int)=>⟨[(40,(.d (I (i:Int)))),(39,(.d (I e.Legs.l.length))),(38,(.d (.l (K1 3) (e.Legs.l.map ALeg.dv) e.Legs.t))),(18,(.d (I oi))),(17,(.d (I l.length))),(16,(.d (.l (K1 10) (l.map AEntry.dv) t))),(12,(.d (I b))),(9,(.d (I s))),(3,(.d (I upto))),(2,(.d (I frm))),(1,(.d (I acc)))],[]⟩) (fun _ _=>True) (fun i b x c=>c (qho acc i b x)) (fun b=>k (.exit 2) [(41,.d (.b false)),(40,(.d (I (e.Legs.l.length:Int)))),(39,(.d (I e.Legs.l.length))),(38,(.d (.l (K1 3) (e.Legs.l.map ALeg.dv) e.Legs.t))),(18,(.d (I oi))),(17,(.d (I l.length))),(16,(.d (.l (K1 10) (l.map AEntry.dv) t))),(12,(.d (I b))),(9,(.d (I s))),(3,(.d (I upto))),(2,(.d (I frm))),(1,(.d (I acc)))] []) ?_ ?_ h0 trivial]
  · rw[qfQ (qho acc) _ _ (fun _ _ _ _=>rfl)]
  · intro B _ b _
    simp[qmZ]
  · intro B _ i b hi _ c hc
    have hm:=mxl
    have h1:(i:Int)<e.Legs.l.length:=by omega
    have h3:=wr1 (i:=i) (by omega)
    simp[qmZ,h1,hi];repeat' (refine qa9 (fun h => ?_) (fun h => ?_)<;>(try simp at h)<;>(try simp[h3]))
    all_goals first
      | (have e:(qho acc) i b e.Legs.l[i]=w64 (b+e.Legs.l[i].Amount):=by
           simp[qho,w64, *];try (intros;omega)
         rw[e];exact hc _ _ _ trivial (by simp[gc,Fr.keep,qad,qac,qab,PV.refs,gcH,PV.ren,Obj.ren,Heap.obj,Fr.ren,gh];try rfl))
      | (have e:(qho acc) i b e.Legs.l[i]=b:=by
           simp[qho, *];try (intros;omega)
         rw[e];exact hc _ _ _ trivial (by simp[gc,Fr.keep,qad,qac,qab,PV.refs,gcH,PV.ren,Obj.ren,Heap.obj,Fr.ren,gh];try rfl))
def qo8 (frm upto:Int) (e:AEntry):Bool:=qmQ e&&(decide (frm≤e.Booked)&&decide (e.Booked≤upto))
def fSp (acc frm upto:Int) (_:Nat) (n:Int) (e:AEntry):Int:=if qo8 frm upto e=true then w64 (n+max 0 (qox acc e)) else n
def qtp (j:List AEntry) (acc frm upto:Int):Int:=qaj (fSp acc frm upto) 0 0 j
theorem qCm (T:Tab) (hT:HU T) (l:List AEntry) (t:Bool) (acc frm upto:Int) (hn:l.length≤maxLen) (ho : ∀e∈l,e.ok) {k:KC (PV×Bool)} {fr:Fr} {H:Heap} (h0:gc [1,2,3,9,16,17,18] 0 ⟨fr,H⟩=⟨[(18,(.d (I (0:Int)))),(17,(.d (I l.length))),(16,(.d (.l (K1 10) (l.map AEntry.dv) t))),(9,(.d (I 0))),(3,(.d (I upto))),(2,(.d (I frm))),(1,(.d (I acc)))],[]⟩) :
    kC T.env 0 fr H (.h (.loop [1,2,3,9,16,17,18] qnj,k))=k (.exit 0) [(19,.d (.b false)),(18,(.d (I (l.length:Int)))),(17,(.d (I l.length))),(16,(.d (.l (K1 10) (l.map AEntry.dv) t))),(9,(.d (I (qaj (fSp acc frm upto) 0 0 l)))),(3,(.d (I upto))),(2,(.d (I frm))),(1,(.d (I acc)))] []:=by
  rw[qb1 l (fun i (b:Int)=>⟨[(18,(.d (I (i:Int)))),(17,(.d (I l.length))),(16,(.d (.l (K1 10) (l.map AEntry.dv) t))),(9,(.d (I b))),(3,(.d (I upto))),(2,(.d (I frm))),(1,(.d (I acc)))],[]⟩) (fun _ _=>True) (fun i b x c=>c (fSp acc frm upto i b x)) (fun b=>k (.exit 0) [(19,.d (.b false)),(18,(.d (I (l.length:Int)))),(17,(.d (I l.length))),(16,(.d (.l (K1 10) (l.map AEntry.dv) t))),(9,(.d (I b))),(3,(.d (I upto))),(2,(.d (I frm))),(1,(.d (I acc)))] []) ?_ ?_ h0 trivial]
  · rw[qfQ (fSp acc frm upto) _ _ (fun _ _ _ _=>rfl)]
  · intro B _ b _
    simp[qnj]
  · intro B _ i b hi _ c hc
    have hm:=mxl
    have h1:(i:Int)<l.length:=by omega
    have h3:=wr1 (i:=i) (by omega)
    have hv:=qwm T hT l[i]
    have hl:l[i].Legs.l.length≤maxLen:=((ho _ (zzs hi)).2.2.2.2.2.2.2.2.1).1
    obtain⟨q,hq⟩ : ∃q,qmQ l[i]=q:=⟨_,rfl⟩;rw[hq] at hv;simp[qnj,h1,hi,hv];repeat' (refine qa9 (fun h => ?_) (fun h => ?_)<;>(try simp at h)<;>(try simp[h,h3]))
    all_goals try
      ((have e:(fSp acc frm upto) i b l[i]=b:=by
           simp[fSp,qo8, *];try (intros;omega)
           done)
       rw[e];exact hc _ _ _ trivial (by simp[gc,Fr.keep,qad,qac,qab,PV.refs,gcH,PV.ren,Obj.ren,Heap.obj,Fr.ren,gh];try rfl))
    have e:(fSp acc frm upto) i b l[i]=w64 (b+max 0 (qox acc l[i])):=by
      simp[fSp,qo8, *]
    rw[e];have hl2:=fun k fr H => @qz0 T l t acc frm upto i b l[i] hl k fr H
    rw[hl2]
    · simp[h3]
      exact hc _ _ _ trivial (by simp[gc,Fr.keep,qad,qac,qab,PV.refs,gcH,PV.ren,Obj.ren,Heap.obj,Fr.ren,gh,qox,w64])
    · simp[gc,Fr.keep,qad,qac,qab,PV.refs,gcH,PV.ren,Obj.ren,Heap.obj,Fr.ren,gh]
theorem qCx (T:Tab) (hT:HU T) (b:ABooks) (hb:b.ok) (acc frm upto:Int):T.val 918 [b.dv,I acc,I frm,I upto]=some (.d (I (qtp b.Journal.l acc frm upto)),false):=by
  rw[qae T (hT 918 qkR rfl) rfl];simp[qkR,Fr.ofArgs];refine (qCm T hT b.Journal.l b.Journal.t acc frm upto (hb.2.2.2.2.2.2.1).1 (hb.2.2.2.2.2.2.1).2 (by simp[gc,Fr.keep,qad,qac,qab,PV.refs,gcH,PV.ren,Obj.ren,Heap.obj,Fr.ren,gh])).trans ?_
  simp[qtp]
end Go.Sim
end
section
namespace Go.Sim
set_option maxRecDepth 10000
set_option maxHeartbeats 4000000
mutual
def qbL:DV→Int→Int
 | .a [_,_,_,.l _ es _],m=>qgX es 1 m
 | _,_=>1
def qgX:List DV→Int→Int→Int
 | [],n,_=>n
 |e::es,n,m=>if n≤m then qgX es (n+qbL e (m-n)) m else n
end
mutual
theorem qtl : ∀(e:DV) (m:Int),0≤m→1≤qbL e m∧qbL e m≤m+1
 | .a [_,_,_,.l _ es _],m,h=>by
  unfold qbL;exact qv6 es 1 m (by omega) (by omega)
 | .a [],m,h=>by unfold qbL;omega
 | .a [_],m,h=>by unfold qbL;omega
 | .a [_,_],m,h=>by unfold qbL;omega
 | .a [_,_,_],m,h=>by unfold qbL;omega
 | .a (_::_::_ :: .b _::_),m,h=>by unfold qbL;omega
 | .a (_::_::_ :: .i _ _::_),m,h=>by unfold qbL;omega
 | .a (_::_::_ :: .s _::_),m,h=>by unfold qbL;omega
 | .a (_::_::_ :: .a _::_),m,h=>by unfold qbL;omega
 | .a (_::_::_ :: .np::_),m,h=>by unfold qbL;omega
 | .a (_::_::_ :: .nf::_),m,h=>by unfold qbL;omega
 | .a (_::_::_ :: .ni::_),m,h=>by unfold qbL;omega
 | .a (_::_::_ :: .nm::_),m,h=>by unfold qbL;omega
 | .a (_::_::_ :: .ifc _ _::_),m,h=>by unfold qbL;omega
 | .a (_::_::_ :: .tok _::_),m,h=>by unfold qbL;omega
 | .a (_::_::_ :: .l _ _ _::_::_),m,h=>by unfold qbL;omega
 | .b _,m,h=>by unfold qbL;omega
 | .i _ _,m,h=>by unfold qbL;omega
 | .s _,m,h=>by unfold qbL;omega
 | .l _ _ _,m,h=>by unfold qbL;omega
 | .np,m,h=>by unfold qbL;omega
 | .nf,m,h=>by unfold qbL;omega
 | .ni,m,h=>by unfold qbL;omega
 | .nm,m,h=>by unfold qbL;omega
 | .ifc _ _,m,h=>by unfold qbL;omega
 | .tok _,m,h=>by unfold qbL;omega
theorem qv6 : ∀(es:List DV) (n m:Int),1≤n→n≤m+1→1≤qgX es n m∧qgX es n m≤m+1
 | [],n,m,h1,h2=>⟨h1,h2⟩
 |e::es,n,m,h1,h2=>by
  unfold qgX;split
  ·rename_i h
   have:=qtl e (m-n) (by omega)
   exact qv6 es _ m (by omega) (by omega)
  ·exact⟨h1,h2⟩
end
theorem qA8 (T:Tab) (x:AExpr) (l:List AExpr) (hl:x.Args.l=l.map AExpr.dv) (m:Int) (hm0:0≤m) (hm1:m≤1000) (hn:l.length≤maxLen) (hv : ∀y∈l,∀m',0≤m'→m'≤1000→T.val 950 [y.dv,I m']=some (.d (I (qbL y.dv m')),false)) {k:KC (PV×Bool)} {r:Int→Option (PV×Bool)} {fr:Fr} {H:Heap}
  (hk : ∀(i:Nat) (n:Int),k (.exit 0) [(16,.d (.b false)),(6,.d (I i)),(5,.d (I n)),(2,.p 0 0 0),(1,.d (I m))] [some (.box (K1 4) (.d x.dv))]=r n)
  (h0:gc [1,2,5,6] 0 ⟨fr,H⟩=⟨[(6,.d (I 0)),(5,.d (I 1)),(2,.p 0 0 0),(1,.d (I m))],[some (.box (K1 4) (.d x.dv))]⟩) :
  kC T.env 0 fr H (.h (.loop [1,2,5,6] qm3,k))=r (qgX x.Args.l 1 m):=by
 have hm:=mxl
 rw[qb1 l (fun i (n:Int)=>⟨[(6,.d (I i)),(5,.d (I n)),(2,.p 0 0 0),(1,.d (I m))],[some (.box (K1 4) (.d x.dv))]⟩) (fun _ n=>1≤n∧n≤m+1) (fun i n y c=>if n≤m then c (n+qbL y.dv (m-n)) else r n) r ?_ ?_ h0 ⟨by omega,by omega⟩]
 ·have key : ∀(es:List AExpr) (i:Nat) (n:Int),qck (fun i n y c=>if n≤m then c (n+qbL (AExpr.dv y) (m-n)) else r n) r i n es=r (qgX (es.map AExpr.dv) n m):=by
   intro es;induction es with
   |nil=>intro i n;simp[qck,qgX]
   |cons y es ih =>
    intro i n;rw[qck,zzu,qgX];split
    ·exact ih _ _
    ·rfl
  rw[hl];exact key l 0 1
 ·intro B _ n _
  have:=hk l.length n
  simp[qm3,hl];exact this
 ·intro B _ i n hi hn1 c hc;have h1:(i:Int)<l.length:=by omega
  have h3:=wr1 (i:=i) (by omega)
  have h4:IntKind.i64.wrap (m-n)=m-n:=wrI (by omega) (by omega)
  simp[qm3,h1,hl];refine qa9 (fun h => ?_) (fun h => ?_)
  ·simp at h;have hb:=qtl l[i].dv (m-n) (by omega)
   have h5:IntKind.i64.wrap (n+qbL l[i].dv (m-n))=n+qbL l[i].dv (m-n):=wrI (by omega) (by omega)
   have hw:=hv l[i] (zzs hi) (m-n) (by omega) (by omega)
   simp[h,h1,hi,h3,h4,h5,hw,hl];exact hc _ _ _ ⟨by omega,by omega⟩ (by simp[gc,Fr.keep,qad,qac,qab,PV.refs,qag,gcH,qaf,Obj.refs,PV.ren,Obj.ren,Heap.obj,Fr.ren,gh,zzd])
  ·simp at h;have h' : ¬n≤m:=by omega
   simp[h'];exact hk i n
theorem qur (T:Tab) (hT:HU T) : ∀(n:Nat) (x:AExpr),SizeOf.sizeOf x.dv<n→x.ok→∀m,0≤m→m≤1000→T.val 950 [x.dv,I m]=some (.d (I (qbL x.dv m)),false)
 | 0,_,h,_,_,_,_=>absurd h (zzm _)
 |n+1,x,hs,hx,m,h0,h1=>by
  obtain⟨hlen,l,hl,hlo⟩:=qtB hx.2.2.2;rw[qae T (hT 950 qjR rfl) rfl];have hn:l.length≤maxLen:=by rw[hl] at hlen;simpa using hlen
  have lp:=fun k r fr H => @qA8 T x l hl m h0 h1 hn (fun y hy=>qur T hT n y (by have:=qEN (x:=x) (a:=y) (by rw[hl];exact List.mem_map_of_mem hy);omega) (hlo _ hy)) k r fr H
  simp[qjR,Fr.ofArgs];refine (lp _ (fun n=>some (.d (I n),false)) _ _ (fun i n => ?_) (by simp[gc,Fr.keep,qad,qac,qab,PV.refs,qag,gcH,qaf,Obj.refs,PV.ren,Obj.ren,Heap.obj,Fr.ren,gh,zzd])).trans ?_
  ·simp
  ·rfl
theorem qqi (T:Tab) (hT:HU T) (x:AExpr) (hx:x.ok):T.val 919 [x.dv,I 100]=some (.d (.b (decide (100<qbL x.dv 100))),false):=by
 rw[qae T (hT 919 qjO rfl) rfl];have e:=qur T hT _ x (Nat.lt_succ_self _) hx 100 (by decide) (by decide)
 simp[qjO,Fr.ofArgs,e]
end Go.Sim
end
section
namespace Go.Sim
set_option maxRecDepth 10000
set_option maxHeartbeats 8000000
def qfh {R:Type} (n:Nat) (k:KC R) (r:Option R):Prop:=∀fr H,fr.get n = .d (.b true)→qau fr=[]→k .ret fr H=r
theorem qhy {R:Type} {n id:Nat} {k:KC R} {r:Option R}:qfh n (blK id k) r=qfh n k r:=rfl
theorem qhx {R:Type} {n:Nat} {E:Env} {base:Nat} {b:PC} {k:KC R} {r:Option R}:qfh n (sqK E base b k) r=qfh n k r:=rfl
theorem qhc {n:Nat} {E:Env}:qfh n (fin E [.t n]) (some (.d (.b true),false))=True:=by
  refine eq_true ?_;intro fr H h1 h2;rw[qcx h2,qcW,qcQ,h1];rfl
def qgi (h:AHold):Bool:=decide (200<h.Key.length)
def qly (l:List AHold):Bool:=decide (100<l.length)||l.any qgi
def qgn (x:ALeg):Bool:=decide (100<x.Currency.length)
def qfw (e:AEntry):Bool:=decide (30<e.Legs.l.length)||decide (1000<e.Key.length)||decide (1000<e.Text.length)||e.Legs.l.any qgn
def grX (x:AExpr):Bool:=decide (100<qbL x.dv 100)
def qgx (f:AFee):Bool:=decide (100<f.Name.length)||grX f.When||grX f.Amount
def qgw (f:ARule):Bool:=decide (100<f.Name.length)||grX f.Amount
def qfM (p:AProduct):Bool:=decide (100<p.Name.length)||decide (100<p.Currency.length)||decide (100<p.Calendar.length)||decide (20<p.Credit.Tiers.l.length)||decide (20<p.Debit.Tiers.l.length)||decide (10<p.Fees.l.length)||decide (10<p.Rules.l.length)||p.Fees.l.any qgx||p.Rules.l.any qgw
def qgk (c:ACalendar):Bool:=decide (400<c.Holidays.l.length)||decide (20<c.Weekend.l.length)
def qjy (b:ABooks):Bool:=decide (20<b.Currencies.l.length)||decide (10<b.Calendars.l.length)||decide (60<b.Chart.l.length)||decide (20<b.Products.l.length)||decide (40<b.Accounts.l.length)||decide (150<b.Journal.l.length)||qly b.Holds.l||decide (100<b.Blocks.l.length)||b.Products.l.any qfM||b.Journal.l.any qfw||b.Calendars.l.any qgk
theorem qDQ (T:Tab) (l:List AHold) (t:Bool) (hn:l.length≤maxLen) {k:KC (PV×Bool)} {r:Option (PV×Bool)} {fr:Fr} {H:Heap} (hr:qfh 2 k r) (h0:gc [0,3] 0 ⟨fr,H⟩=⟨[(3,(.d (I (0:Int)))),(0,(.d (.l (K1 6) (l.map AHold.dv) t)))],[]⟩) :
    kC T.env 0 fr H (.h (.loop [0,3] qnt,k))=brn (l.any (qgi)) (.h (r,k (.exit 0) [(10,.d (.b false)),(3,(.d (I (l.length:Int)))),(0,(.d (.l (K1 6) (l.map AHold.dv) t)))] [])):=by
  have hm:=mxl
  rw[qb1 l (fun i _=>⟨[(3,(.d (I (i:Int)))),(0,(.d (.l (K1 6) (l.map AHold.dv) t)))],[]⟩) (fun _ _=>True) (fun i _ x c=>if (qgi) x=true then r else c ()) (fun _=>k (.exit 0) [(10,.d (.b false)),(3,(.d (I (l.length:Int)))),(0,(.d (.l (K1 6) (l.map AHold.dv) t)))] []) ?_ ?_ h0 trivial]
  · rw[qgM (qgi) r]
    · cases l.any (qgi)<;>rfl
    · exact fun _ _ _ _=>rfl
  · intro B _ _ _
    simp[qnt]
  · intro B _ i _ hi _ c hc
    have h1:(i:Int)<l.length:=by omega
    have h3:=wr1 (i:=i) (by omega)
    simp[qnt,h1,hi];repeat' (refine qa9 (fun h => ?_) (fun h => ?_)<;>(try simp at h)<;>(try simp[h3]))
    all_goals first
      | (have e:(qgi) l[i]=true:=by
           simp[qgi, *];try omega
         rw[if_pos e];exact hr _ _ (by simp[Fr.get]) (by simp[qau,gh]))
      | (have e : ¬(qgi) l[i]=true:=by
           simp[qgi, *];try omega
         rw[if_neg e];exact hc () _ _ trivial (by simp[gc,Fr.keep,qad,qac,qab,PV.refs,gcH,PV.ren,Obj.ren,Heap.obj,Fr.ren,gh]))
theorem qzb (T:Tab) (hT:HU T) (l:List AHold) (t:Bool) (hn:l.length≤maxLen):T.val 1094 [.l (K1 6) (l.map AHold.dv) t]=some (.d (.b (qly l)),false):=by
  rw[qae T (hT 1094 qkw rfl) rfl];have lp:=fun k fr H => @qDQ T l t hn k (some (.d (.b true),false)) fr H
  obtain⟨q,hq⟩ : ∃q,l.any qgi=q:=⟨_,rfl⟩;simp only[hq] at lp;have hs:qly l=(decide (100<l.length)||q):=by rw[qly,hq]
  clear hq
  simp[qkw,Fr.ofArgs];repeat' first
    | (refine qa9 (fun h => ?_) (fun h => ?_)<;>(try simp at h)<;>(try simp))
    |refine (lp _ _ _ (by simp[qhy,qhx,qhc]) (by simp[gc,Fr.keep,qad,qac,qab,PV.refs,gcH,PV.ren,Obj.ren,Heap.obj,Fr.ren,gh])).trans ?_
  all_goals simp_all
  all_goals omega
theorem qBM (T:Tab) (e:AEntry) (hn:e.Legs.l.length≤maxLen) {k:KC (PV×Bool)} {r:Option (PV×Bool)} {fr:Fr} {H:Heap} (hr:qfh 2 k r) (h0:gc [1,3] 0 ⟨fr,H⟩=⟨[(3,(.d (I (0:Int)))),(1,(.p 0 0 0))],[some (.box (K1 10) (.d e.dv))]⟩) :
    kC T.env 0 fr H (.h (.loop [1,3] ql0,k))=brn (e.Legs.l.any (qgn)) (.h (r,k (.exit 0) [(24,.d (.b false)),(3,(.d (I (e.Legs.l.length:Int)))),(1,(.p 0 0 0))] [some (.box (K1 10) (.d e.dv))])):=by
  have hm:=mxl
  rw[qb1 e.Legs.l (fun i _=>⟨[(3,(.d (I (i:Int)))),(1,(.p 0 0 0))],[some (.box (K1 10) (.d e.dv))]⟩) (fun _ _=>True) (fun i _ x c=>if (qgn) x=true then r else c ()) (fun _=>k (.exit 0) [(24,.d (.b false)),(3,(.d (I (e.Legs.l.length:Int)))),(1,(.p 0 0 0))] [some (.box (K1 10) (.d e.dv))]) ?_ ?_ h0 trivial]
  · rw[qgM (qgn) r]
    · cases e.Legs.l.any (qgn)<;>rfl
    · exact fun _ _ _ _=>rfl
  · intro B _ _ _
    simp[ql0]
  · intro B _ i _ hi _ c hc
    have h1:(i:Int)<e.Legs.l.length:=by omega
    have h3:=wr1 (i:=i) (by omega)
    simp[ql0,h1,hi];repeat' (refine qa9 (fun h => ?_) (fun h => ?_)<;>(try simp at h)<;>(try simp[h3]))
    all_goals first
      | (have e:(qgn) e.Legs.l[i]=true:=by
           simp[qgn, *];try omega
         rw[if_pos e];exact hr _ _ (by simp[Fr.get]) (by simp[qau,gh]))
      | (have e : ¬(qgn) e.Legs.l[i]=true:=by
           simp[qgn, *];try omega
         rw[if_neg e];exact hc () _ _ trivial (by simp[gc,Fr.keep,qad,qac,qab,PV.refs,qag,gcH,qaf,Obj.refs,PV.ren,Obj.ren,Heap.obj,Fr.ren,gh,zzd]))
theorem qCK (T:Tab) (hT:HU T) (e:AEntry) (he:e.ok):T.val 1096 [e.dv]=some (.d (.b (qfw e)),false):=by
  rw[qae T (hT 1096 qk3 rfl) rfl];have lp:=fun k fr H => @qBM T e (he.2.2.2.2.2.2.2.2.1).1 k (some (.d (.b true),false)) fr H
  obtain⟨q,hq⟩ : ∃q,e.Legs.l.any qgn=q:=⟨_,rfl⟩;simp only[hq] at lp;have hs:qfw e=(decide (30<e.Legs.l.length)||decide (1000<e.Key.length)||decide (1000<e.Text.length)||q):=by rw[qfw,hq]
  clear hq
  simp[qk3,Fr.ofArgs];repeat' first
    | (refine qa9 (fun h => ?_) (fun h => ?_)<;>(try simp at h)<;>(try simp[h]))
    |refine (lp _ _ _ (by simp[qhy,qhx,qhc]) (by simp[gc,Fr.keep,qad,qac,qab,PV.refs,qag,gcH,qaf,Obj.refs,PV.ren,Obj.ren,Heap.obj,Fr.ren,gh,zzd])).trans ?_
  all_goals simp_all
  all_goals omega
end Go.Sim
end
section
namespace Go.Sim
set_option maxRecDepth 10000
set_option maxHeartbeats 8000000
theorem qw9 (T:Tab) (hT:HU T) (p:AProduct) (hn:p.Fees.l.length≤maxLen) (ho : ∀f∈p.Fees.l,f.ok) {k:KC (PV×Bool)} {r:Option (PV×Bool)} {fr:Fr} {H:Heap} (hr:qfh 2 k r) (h0:gc [1,3] 0 ⟨fr,H⟩=⟨[(3,(.d (I (0:Int)))),(1,(.p 0 0 0))],[some (.box (K1 19) (.d p.dv))]⟩) :
    kC T.env 0 fr H (.h (.loop [1,3] qlN,k))=brn (p.Fees.l.any (qgx)) (.h (r,k (.exit 0) [(51,.d (.b false)),(3,(.d (I (p.Fees.l.length:Int)))),(1,(.p 0 0 0))] [some (.box (K1 19) (.d p.dv))])):=by
  have hm:=mxl
  rw[qb1 p.Fees.l (fun i _=>⟨[(3,(.d (I (i:Int)))),(1,(.p 0 0 0))],[some (.box (K1 19) (.d p.dv))]⟩) (fun _ _=>True) (fun i _ x c=>if (qgx) x=true then r else c ()) (fun _=>k (.exit 0) [(51,.d (.b false)),(3,(.d (I (p.Fees.l.length:Int)))),(1,(.p 0 0 0))] [some (.box (K1 19) (.d p.dv))]) ?_ ?_ h0 trivial]
  · rw[qgM (qgx) r]
    · cases p.Fees.l.any (qgx)<;>rfl
    · exact fun _ _ _ _=>rfl
  · intro B _ _ _
    simp[qlN]
  · intro B _ i _ hi _ c hc
    have h1:(i:Int)<p.Fees.l.length:=by omega
    have h3:=wr1 (i:=i) (by omega)
    have o1:=ho _ (zzs hi)
    have e0:=qqi T hT p.Fees.l[i].When o1.2.2.1
    have e1:=qqi T hT p.Fees.l[i].Amount o1.2.2.2
    simp[qlN,h1,hi];repeat' (refine qa9 (fun h => ?_) (fun h => ?_)<;>(try simp at h)<;>(try simp[h,h1,hi,h3,e0,e1]))
    all_goals first
      | (have e:(qgx) p.Fees.l[i]=true:=by
           simp[qgx,grX, *];try omega
         rw[if_pos e];exact hr _ _ (by simp[Fr.get]) (by simp[qau,gh]))
      | (have e : ¬(qgx) p.Fees.l[i]=true:=by
           simp[qgx,grX, *];try omega
         rw[if_neg e];exact hc () _ _ trivial (by simp[gc,Fr.keep,qad,qac,qab,PV.refs,qag,gcH,qaf,Obj.refs,PV.ren,Obj.ren,Heap.obj,Fr.ren,gh,zzd]))
theorem qCG (T:Tab) (hT:HU T) (p:AProduct) (hn:p.Rules.l.length≤maxLen) (ho : ∀f∈p.Rules.l,f.ok) {k:KC (PV×Bool)} {r:Option (PV×Bool)} {fr:Fr} {H:Heap} (hr:qfh 2 k r) (h0:gc [1,4] 0 ⟨fr,H⟩=⟨[(4,(.d (I (0:Int)))),(1,(.p 0 0 0))],[some (.box (K1 19) (.d p.dv))]⟩) :
    kC T.env 0 fr H (.h (.loop [1,4] qmK,k))=brn (p.Rules.l.any (qgw)) (.h (r,k (.exit 2) [(84,.d (.b false)),(4,(.d (I (p.Rules.l.length:Int)))),(1,(.p 0 0 0))] [some (.box (K1 19) (.d p.dv))])):=by
  have hm:=mxl
  rw[qb1 p.Rules.l (fun i _=>⟨[(4,(.d (I (i:Int)))),(1,(.p 0 0 0))],[some (.box (K1 19) (.d p.dv))]⟩) (fun _ _=>True) (fun i _ x c=>if (qgw) x=true then r else c ()) (fun _=>k (.exit 2) [(84,.d (.b false)),(4,(.d (I (p.Rules.l.length:Int)))),(1,(.p 0 0 0))] [some (.box (K1 19) (.d p.dv))]) ?_ ?_ h0 trivial]
  · rw[qgM (qgw) r]
    · cases p.Rules.l.any (qgw)<;>rfl
    · exact fun _ _ _ _=>rfl
  · intro B _ _ _
    simp[qmK]
  · intro B _ i _ hi _ c hc
    have h1:(i:Int)<p.Rules.l.length:=by omega
    have h3:=wr1 (i:=i) (by omega)
    have o1:=ho _ (zzs hi)
    have e1:=qqi T hT p.Rules.l[i].Amount o1.2.2
    simp[qmK,h1,hi];repeat' (refine qa9 (fun h => ?_) (fun h => ?_)<;>(try simp at h)<;>(try simp[h,h1,hi,h3,e1]))
    all_goals first
      | (have e:(qgw) p.Rules.l[i]=true:=by
           simp[qgw,grX, *];try omega
         rw[if_pos e];exact hr _ _ (by simp[Fr.get]) (by simp[qau,gh]))
      | (have e : ¬(qgw) p.Rules.l[i]=true:=by
           simp[qgw,grX, *];try omega
         rw[if_neg e];exact hc () _ _ trivial (by simp[gc,Fr.keep,qad,qac,qab,PV.refs,qag,gcH,qaf,Obj.refs,PV.ren,Obj.ren,Heap.obj,Fr.ren,gh,zzd]))
theorem qx9 (T:Tab) (hT:HU T) (p:AProduct) (hp:p.ok):T.val 1095 [p.dv]=some (.d (.b (qfM p)),false):=by
  rw[qae T (hT 1095 qlj rfl) rfl];have lp0:=fun k fr H => @qw9 T hT p (hp.2.2.2.2.2.2.2.2.2.1).1 (hp.2.2.2.2.2.2.2.2.2.1).2 k (some (.d (.b true),false)) fr H
  have lp1:=fun k fr H => @qCG T hT p (hp.2.2.2.2.2.2.2.2.2.2).1 (hp.2.2.2.2.2.2.2.2.2.2).2 k (some (.d (.b true),false)) fr H
  obtain⟨q0,hq0⟩ : ∃q,p.Fees.l.any qgx=q:=⟨_,rfl⟩;obtain⟨q1,hq1⟩ : ∃q,p.Rules.l.any qgw=q:=⟨_,rfl⟩;simp only[hq0] at lp0;simp only[hq1] at lp1;have hs:qfM p=(decide (100<p.Name.length)||decide (100<p.Currency.length)||decide (100<p.Calendar.length)||decide (20<p.Credit.Tiers.l.length)||decide (20<p.Debit.Tiers.l.length)||decide (10<p.Fees.l.length)||decide (10<p.Rules.l.length)||q0||q1):=by rw[qfM,hq0,hq1]
  clear hq0 hq1
  simp[qlj,Fr.ofArgs];repeat' first
    | (refine qa9 (fun h => ?_) (fun h => ?_)<;>(try simp at h)<;>(try simp[h]))
    |refine (lp0 _ _ _ (by simp[qhy,qhx,qhc]) (by simp[gc,Fr.keep,qad,qac,qab,PV.refs,qag,gcH,qaf,Obj.refs,PV.ren,Obj.ren,Heap.obj,Fr.ren,gh,zzd])).trans ?_
    |refine (lp1 _ _ _ (by simp[qhy,qhx,qhc]) (by simp[gc,Fr.keep,qad,qac,qab,PV.refs,qag,gcH,qaf,Obj.refs,PV.ren,Obj.ren,Heap.obj,Fr.ren,gh,zzd])).trans ?_
  all_goals simp_all
  all_goals omega
theorem qDs (T:Tab) (hT:HU T) (b:ABooks) (hn:b.Products.l.length≤maxLen) (ho : ∀f∈b.Products.l,f.ok) {k:KC (PV×Bool)} {r:Option (PV×Bool)} {fr:Fr} {H:Heap} (hr:qfh 2 k r) (h0:gc [1,3] 0 ⟨fr,H⟩=⟨[(3,(.d (I (0:Int)))),(1,(.p 0 0 0))],[some (.box (K1 22) (.d b.dv))]⟩) :
    kC T.env 0 fr H (.h (.loop [1,3] qnA,k))=brn (b.Products.l.any (qfM)) (.h (r,k (.exit 0) [(55,.d (.b false)),(3,(.d (I (b.Products.l.length:Int)))),(1,(.p 0 0 0))] [some (.box (K1 22) (.d b.dv))])):=by
  have hm:=mxl
  rw[qb1 b.Products.l (fun i _=>⟨[(3,(.d (I (i:Int)))),(1,(.p 0 0 0))],[some (.box (K1 22) (.d b.dv))]⟩) (fun _ _=>True) (fun i _ x c=>if (qfM) x=true then r else c ()) (fun _=>k (.exit 0) [(55,.d (.b false)),(3,(.d (I (b.Products.l.length:Int)))),(1,(.p 0 0 0))] [some (.box (K1 22) (.d b.dv))]) ?_ ?_ h0 trivial]
  · rw[qgM (qfM) r]
    · cases b.Products.l.any (qfM)<;>rfl
    · exact fun _ _ _ _=>rfl
  · intro B _ _ _
    simp[qnA]
  · intro B _ i _ hi _ c hc
    have h1:(i:Int)<b.Products.l.length:=by omega
    have h3:=wr1 (i:=i) (by omega)
    have e1:=qx9 T hT b.Products.l[i] (ho _ (zzs hi))
    obtain⟨q,hq⟩ : ∃q,qfM b.Products.l[i]=q:=⟨_,rfl⟩;rw[hq] at e1;simp[qnA,h1,hi,e1];repeat' (refine qa9 (fun h => ?_) (fun h => ?_)<;>(try simp at h)<;>(try simp[h3]))
    all_goals first
      | (have e:(qfM) b.Products.l[i]=true:=by
           simp[*];try omega
         rw[if_pos e];exact hr _ _ (by simp[Fr.get]) (by simp[qau,gh]))
      | (have e : ¬(qfM) b.Products.l[i]=true:=by
           simp[*];try omega
         rw[if_neg e];exact hc () _ _ trivial (by simp[gc,Fr.keep,qad,qac,qab,PV.refs,qag,gcH,qaf,Obj.refs,PV.ren,Obj.ren,Heap.obj,Fr.ren,gh,zzd]))
theorem qwl (T:Tab) (hT:HU T) (b:ABooks) (hn:b.Journal.l.length≤maxLen) (ho : ∀f∈b.Journal.l,f.ok) {k:KC (PV×Bool)} {r:Option (PV×Bool)} {fr:Fr} {H:Heap} (hr:qfh 2 k r) (h0:gc [1,4] 0 ⟨fr,H⟩=⟨[(4,(.d (I (0:Int)))),(1,(.p 0 0 0))],[some (.box (K1 22) (.d b.dv))]⟩) :
    kC T.env 0 fr H (.h (.loop [1,4] ql6,k))=brn (b.Journal.l.any (qfw)) (.h (r,k (.exit 2) [(68,.d (.b false)),(4,(.d (I (b.Journal.l.length:Int)))),(1,(.p 0 0 0))] [some (.box (K1 22) (.d b.dv))])):=by
  have hm:=mxl
  rw[qb1 b.Journal.l (fun i _=>⟨[(4,(.d (I (i:Int)))),(1,(.p 0 0 0))],[some (.box (K1 22) (.d b.dv))]⟩) (fun _ _=>True) (fun i _ x c=>if (qfw) x=true then r else c ()) (fun _=>k (.exit 2) [(68,.d (.b false)),(4,(.d (I (b.Journal.l.length:Int)))),(1,(.p 0 0 0))] [some (.box (K1 22) (.d b.dv))]) ?_ ?_ h0 trivial]
  · rw[qgM (qfw) r]
    · cases b.Journal.l.any (qfw)<;>rfl
    · exact fun _ _ _ _=>rfl
  · intro B _ _ _
    simp[ql6]
  · intro B _ i _ hi _ c hc
    have h1:(i:Int)<b.Journal.l.length:=by omega
    have h3:=wr1 (i:=i) (by omega)
    have e1:=qCK T hT b.Journal.l[i] (ho _ (zzs hi))
    obtain⟨q,hq⟩ : ∃q,qfw b.Journal.l[i]=q:=⟨_,rfl⟩;rw[hq] at e1;simp[ql6,h1,hi,e1];repeat' (refine qa9 (fun h => ?_) (fun h => ?_)<;>(try simp at h)<;>(try simp[h3]))
    all_goals first
      | (have e:(qfw) b.Journal.l[i]=true:=by
           simp[*];try omega
         rw[if_pos e];exact hr _ _ (by simp[Fr.get]) (by simp[qau,gh]))
      | (have e : ¬(qfw) b.Journal.l[i]=true:=by
           simp[*];try omega
         rw[if_neg e];exact hc () _ _ trivial (by simp[gc,Fr.keep,qad,qac,qab,PV.refs,qag,gcH,qaf,Obj.refs,PV.ren,Obj.ren,Heap.obj,Fr.ren,gh,zzd]))
theorem qBz (T:Tab) (b:ABooks) (hn:b.Calendars.l.length≤maxLen) {k:KC (PV×Bool)} {r:Option (PV×Bool)} {fr:Fr} {H:Heap} (hr:qfh 2 k r) (h0:gc [1,5] 0 ⟨fr,H⟩=⟨[(5,(.d (I (0:Int)))),(1,(.p 0 0 0))],[some (.box (K1 22) (.d b.dv))]⟩) :
    kC T.env 0 fr H (.h (.loop [1,5] qmN,k))=brn (b.Calendars.l.any (qgk)) (.h (r,k (.exit 4) [(81,.d (.b false)),(5,(.d (I (b.Calendars.l.length:Int)))),(1,(.p 0 0 0))] [some (.box (K1 22) (.d b.dv))])):=by
  have hm:=mxl
  rw[qb1 b.Calendars.l (fun i _=>⟨[(5,(.d (I (i:Int)))),(1,(.p 0 0 0))],[some (.box (K1 22) (.d b.dv))]⟩) (fun _ _=>True) (fun i _ x c=>if (qgk) x=true then r else c ()) (fun _=>k (.exit 4) [(81,.d (.b false)),(5,(.d (I (b.Calendars.l.length:Int)))),(1,(.p 0 0 0))] [some (.box (K1 22) (.d b.dv))]) ?_ ?_ h0 trivial]
  · rw[qgM (qgk) r]
    · cases b.Calendars.l.any (qgk)<;>rfl
    · exact fun _ _ _ _=>rfl
  · intro B _ _ _
    simp[qmN]
  · intro B _ i _ hi _ c hc
    have h1:(i:Int)<b.Calendars.l.length:=by omega
    have h3:=wr1 (i:=i) (by omega)
    simp[qmN,h1,hi];repeat' (refine qa9 (fun h => ?_) (fun h => ?_)<;>(try simp at h)<;>(try simp[h,h1,hi,h3]))
    all_goals first
      | (have e:(qgk) b.Calendars.l[i]=true:=by
           simp[qgk, *];try omega
         rw[if_pos e];exact hr _ _ (by simp[Fr.get]) (by simp[qau,gh]))
      | (have e : ¬(qgk) b.Calendars.l[i]=true:=by
           simp[qgk, *];try omega
         rw[if_neg e];exact hc () _ _ trivial (by simp[gc,Fr.keep,qad,qac,qab,PV.refs,qag,gcH,qaf,Obj.refs,PV.ren,Obj.ren,Heap.obj,Fr.ren,gh,zzd]))
theorem qBu (T:Tab) (hT:HU T) (b:ABooks) (hb:b.ok):T.val 1090 [b.dv]=some (.d (.b (qjy b)),false):=by
  rw[qae T (hT 1090 qk4 rfl) rfl];have lp0:=fun k fr H => @qDs T hT b (hb.2.2.2.2.1).1 (hb.2.2.2.2.1).2 k (some (.d (.b true),false)) fr H
  have lp1:=fun k fr H => @qwl T hT b (hb.2.2.2.2.2.2.1).1 (hb.2.2.2.2.2.2.1).2 k (some (.d (.b true),false)) fr H
  have lp2:=fun k fr H => @qBz T b (hb.2.1).1 k (some (.d (.b true),false)) fr H
  have e:=qzb T hT b.Holds.l b.Holds.t (hb.2.2.2.2.2.2.2.1).1
  obtain⟨q0,hq0⟩ : ∃q,b.Products.l.any qfM=q:=⟨_,rfl⟩;obtain⟨q1,hq1⟩ : ∃q,b.Journal.l.any qfw=q:=⟨_,rfl⟩;obtain⟨q2,hq2⟩ : ∃q,b.Calendars.l.any qgk=q:=⟨_,rfl⟩;obtain⟨q3,hq3⟩ : ∃q,qly b.Holds.l=q:=⟨_,rfl⟩;simp only[hq0] at lp0;simp only[hq1] at lp1;simp only[hq2] at lp2;simp only[hq3] at e;have hs:qjy b=(decide (20<b.Currencies.l.length)||decide (10<b.Calendars.l.length)||decide (60<b.Chart.l.length)||decide (20<b.Products.l.length)||decide (40<b.Accounts.l.length)||decide (150<b.Journal.l.length)||q3||decide (100<b.Blocks.l.length)||q0||q1||q2):=by rw[qjy,hq0,hq1,hq2,hq3]
  clear hq0 hq1 hq2 hq3
  simp[qk4,Fr.ofArgs];repeat' first
    | (refine qa9 (fun h => ?_) (fun h => ?_)<;>(try simp at h)<;>(try simp[h,e]))
    |refine (lp0 _ _ _ (by simp[qhy,qhx,qhc]) (by simp[gc,Fr.keep,qad,qac,qab,PV.refs,qag,gcH,qaf,Obj.refs,PV.ren,Obj.ren,Heap.obj,Fr.ren,gh,zzd])).trans ?_
    |refine (lp1 _ _ _ (by simp[qhy,qhx,qhc]) (by simp[gc,Fr.keep,qad,qac,qab,PV.refs,qag,gcH,qaf,Obj.refs,PV.ren,Obj.ren,Heap.obj,Fr.ren,gh,zzd])).trans ?_
    |refine (lp2 _ _ _ (by simp[qhy,qhx,qhc]) (by simp[gc,Fr.keep,qad,qac,qab,PV.refs,qag,gcH,qaf,Obj.refs,PV.ren,Obj.ren,Heap.obj,Fr.ren,gh,zzd])).trans ?_
  all_goals simp_all
  all_goals omega
end Go.Sim
end
section
namespace Go.Sim
set_option maxRecDepth 10000
set_option maxHeartbeats 4000000
def qnq (id:Int) (x:ALeg):Bool:=x.Account==id
def tch (id:Int) (e:AEntry):Bool:=e.Legs.l.any (qnq id)
theorem qoj {α:Type} (p:α→Bool) (l:List α):decide (0≤qg2 p l)=l.any p:=by
  unfold qg2;cases h:l.findIdx? p with
  |none =>
    have:=List.findIdx?_eq_none_iff.1 h
    have:l.any p=false:=by
      rw[List.any_eq_false];intro x hx;simpa using this x hx
    rw[this];rfl
  |some j =>
    have:l.any p=true:=by
      obtain⟨hj,h1,-⟩:=List.findIdx?_eq_some_iff_getElem.1 h;exact List.any_eq_true.2 ⟨_,zzs hj,h1⟩
    rw[this];simp
theorem qzY {α:Type} (T:Tab) (hT:HV T) (g:Nat) (dv:α→DV) (p:α→Bool) (c:PV) (cs:List PV) (H0:Heap) (hH:Cl H0) (hc : ∀r∈PV.refsL (c::cs),r<H0.length) (l:List α) (hv : ∀x∈l,T.ref g (.d (dv x)::c::cs) H0=some (.d (.b (p x)),H0)) (s:Bool) (hn:l.length≤maxLen) :
    T.ref 708 [.d (.l (K1 3) (l.map dv) s),.f g (c::cs)] H0=some (.d (.b (l.any p)),H0):=by
  rw[qcz T (hT 708 qkF rfl) rfl];have e:=qlO T (hT 265 qiu rfl) g dv p c cs H0 hH hc l hv s hn
  have e2:=qoj p l
  simp[qkF,Fr.ofArgs,e,e2,qb2,qlu hH]
theorem qxV (T:Tab) (hT:HV T) (x:ALeg) (e:AEntry) (id:Int):T.ref 934 [.d x.dv,.p 1 0 0] [some (.box (K1 10) (.d e.dv)),some (.box K0 (.d (I id)))]=some (.d (.b (qnq id x)),[some (.box (K1 10) (.d e.dv)),some (.box K0 (.d (I id)))]):=by
  rw[qcz T (hT 934 qj7 rfl) rfl];have hH:=qnm (K1 10) K0 e.dv (I id)
  simp[qj7,Fr.ofArgs,qb2,qnq];exact (qgd hH [some (.box (K1 3) (.d x.dv))] _)
theorem qyY (T:Tab) (hT:HV T) (e:AEntry) (id:Int) (hn:e.Legs.l.length≤maxLen):T.val 883 [e.dv,I id]=some (.d (.b (tch id e)),false):=by
  rw[qae T (hT 883 qjU rfl) rfl];have e1:=qzY T hT 934 ALeg.dv (qnq id) (.p 1 0 0) [] [some (.box (K1 10) (.d e.dv)),some (.box K0 (.d (I id)))] (qnm _ _ _ _) (by simp[PV.refs,PV.refsL]) e.Legs.l (fun a _=>qxV T hT a e id) e.Legs.t hn
  simp[qjU,Fr.ofArgs,e1,tch]
def qgc (id frm upto:Int) (_:Nat) (n:Int) (e:AEntry):Int:=if (decide (frm≤e.Booked)&&(decide (e.Booked≤upto)&&tch id e))=true then w64 (n+1) else n
def qio (j:List AEntry) (id frm upto:Int):Int:=qaj (qgc id frm upto) 0 0 j
theorem qFi (T:Tab) (hT:HV T) (a:AAccount) (l:List AEntry) (t:Bool) (id frm upto amt now low vol:Int) (hn:l.length≤maxLen) (ho : ∀e∈l,e.ok) {k:KC (PV×Bool)} {fr:Fr} {H:Heap} (h0:gc [1,2,3,10,12,13,14,16,18,75,76,77] 0 ⟨fr,H⟩=⟨[(77,(.d (I (0:Int)))),(76,(.d (I l.length))),(75,(.d (.l (K1 10) (l.map AEntry.dv) t))),(18,(.d (I 0))),(16,(.d (I vol))),(14,(.d (I low))),(13,(.d (I now))),(12,(.d (I frm))),(10,(.p 0 0 0)),(3,(.d (I amt))),(2,(.d (I upto))),(1,(.d (I id)))],[some (.box (K1 7) (.d a.dv))]⟩) :
    kC T.env 0 fr H (.h (.loop [1,2,3,10,12,13,14,16,18,75,76,77] qmr,k))=k (.exit 1) [(78,.d (.b false)),(77,(.d (I (l.length:Int)))),(76,(.d (I l.length))),(75,(.d (.l (K1 10) (l.map AEntry.dv) t))),(18,(.d (I (qaj (qgc id frm upto) 0 0 l)))),(16,(.d (I vol))),(14,(.d (I low))),(13,(.d (I now))),(12,(.d (I frm))),(10,(.p 0 0 0)),(3,(.d (I amt))),(2,(.d (I upto))),(1,(.d (I id)))] [some (.box (K1 7) (.d a.dv))]:=by
  rw[qb1 l (fun i (b:Int)=>⟨[(77,(.d (I (i:Int)))),(76,(.d (I l.length))),(75,(.d (.l (K1 10) (l.map AEntry.dv) t))),(18,(.d (I b))),(16,(.d (I vol))),(14,(.d (I low))),(13,(.d (I now))),(12,(.d (I frm))),(10,(.p 0 0 0)),(3,(.d (I amt))),(2,(.d (I upto))),(1,(.d (I id)))],[some (.box (K1 7) (.d a.dv))]⟩) (fun _ _=>True) (fun i b x c=>c (qgc id frm upto i b x)) (fun b=>k (.exit 1) [(78,.d (.b false)),(77,(.d (I (l.length:Int)))),(76,(.d (I l.length))),(75,(.d (.l (K1 10) (l.map AEntry.dv) t))),(18,(.d (I b))),(16,(.d (I vol))),(14,(.d (I low))),(13,(.d (I now))),(12,(.d (I frm))),(10,(.p 0 0 0)),(3,(.d (I amt))),(2,(.d (I upto))),(1,(.d (I id)))] [some (.box (K1 7) (.d a.dv))]) ?_ ?_ h0 trivial]
  · rw[qfQ (qgc id frm upto) _ _ (fun _ _ _ _=>rfl)]
  · intro B _ b _
    simp[qmr]
  · intro B _ i b hi _ c hc
    have hm:=mxl
    have h1:(i:Int)<l.length:=by omega
    have h3:=wr1 (i:=i) (by omega)
    have hl:l[i].Legs.l.length≤maxLen:=((ho _ (zzs hi)).2.2.2.2.2.2.2.2.1).1
    have hv:=qyY T hT l[i] id hl
    obtain⟨q,hq⟩ : ∃q,tch id l[i]=q:=⟨_,rfl⟩;rw[hq] at hv;simp[qmr,h1,hi];repeat' (refine qa9 (fun h => ?_) (fun h => ?_)<;>(try simp at h)<;>(try simp[h,h3,hv]))
    all_goals first
      | (have e:(qgc id frm upto) i b l[i]=w64 (b+1):=by
           simp[qgc, *];try (intros;omega)
         rw[e];exact hc _ _ _ trivial (by simp[gc,Fr.keep,qad,qac,qab,PV.refs,qag,gcH,qaf,Obj.refs,PV.ren,Obj.ren,Heap.obj,Fr.ren,gh,zzd,w64];try rfl))
      | (have e:(qgc id frm upto) i b l[i]=b:=by
           simp[qgc, *];try (intros;omega)
         rw[e];exact hc _ _ _ trivial (by simp[gc,Fr.keep,qad,qac,qab,PV.refs,qag,gcH,qaf,Obj.refs,PV.ren,Obj.ren,Heap.obj,Fr.ren,gh,zzd];try rfl))
def qgh:List Int→Int
  | []=>0
  |x::r=>r.foldl min x
theorem qtb : ∀(r:List Int) (i:Nat) (b:Int),qaj (fun _ b x=>min b x) i b r=r.foldl min b
  | [],_,_=>rfl
  |x::r,i,b=>by rw[qaj,qtb r,List.foldl_cons]
theorem qwv (T:Tab) (x:Int) (l:List Int) (t:Bool) (hn:l.length<maxLen) {k:KC (PV×Bool)} {fr:Fr} {H:Heap} (h0:gc [0,3,4] 0 ⟨fr,H⟩=⟨[(4,.d (I 1)),(3,.d (I x)),(0,.d (.l K0 (I x::l.map I) t))],[]⟩) :
    kC T.env 0 fr H (.h (.loop [0,3,4] qng,k))=k (.exit 0) [(15,.d (.b false)),(4,.d (I (l.length+1))),(3,.d (I (l.foldl min x))),(0,.d (.l K0 (I x::l.map I) t))] []:=by
  have hm:=mxl
  rw[qb1 l (fun i (b:Int)=>⟨[(4,.d (I ((i:Int)+1))),(3,.d (I b)),(0,.d (.l K0 (I x::l.map I) t))],[]⟩) (fun _ _=>True) (fun i b y c=>c (min b y)) (fun b=>k (.exit 0) [(15,.d (.b false)),(4,.d (I (l.length+1))),(3,.d (I b)),(0,.d (.l K0 (I x::l.map I) t))] []) ?_ ?_ (by simpa using h0) trivial]
  · rw[qfQ (fun _ b y=>min b y) _ _ (fun _ _ _ _=>rfl),qtb]
  · intro B _ b _
    simp[qng]
  · intro B _ i b hi _ c hc
    have h1:(i:Int)+1<l.length+1:=by omega
    have h3:IntKind.i64.wrap ((i:Int)+1+1)=(i:Int)+1+1:=wrI (by omega) (by omega)
    have h4:(0:Int)≤(i:Int)+1:=by omega
    have h5:((i:Int)+1).toNat=i+1:=by omega
    simp[qng,h1,hi,h3,h4,↓qDg];exact hc _ _ _ trivial (by simp[gc,Fr.keep,qad,qac,qab,PV.refs,gcH,PV.ren,Obj.ren,Heap.obj,Fr.ren,gh])
theorem qBV (T:Tab) (hT:HV T) (x:Int) (l:List Int) (t:Bool) (hn:l.length<maxLen):T.val 881 [.l K0 ((x::l).map I) t]=some (.d (I (qgh (x::l))),false):=by
  rw[qae T (hT 881 qlz rfl) rfl];have h1 : ¬((l.length:Int)+1<1):=by omega
  have h2:(0:Int)<(l.length:Int)+1:=by omega
  have lp:=fun k fr H => @qwv T x l t hn k fr H
  simp[qlz,Fr.ofArgs,h1,h2];refine (lp _ _ _ (by simp[gc,Fr.keep,qad,qac,qab,PV.refs,gcH,PV.ren,Obj.ren,Heap.obj,Fr.ren,gh])).trans ?_
  simp[qgh]
end Go.Sim
end
section
namespace Go.Sim
set_option maxRecDepth 10000
set_option maxHeartbeats 4000000
def Ans {R:Type} (Q:R→Prop) (x:Option R):Prop:=∃r,x=some r∧Q r
theorem qim {R:Type} {Q:R→Prop} {c:Bool} {x y:Option R} (h1:c=true→Ans Q x) (h2:c=false→Ans Q y):Ans Q (brn c (.h (x,y))):=by
 cases c with
 |true=>exact h1 rfl
 |false=>exact h2 rfl
theorem qbM {R:Type} {Q:R→Prop} {r:R} (h:Q r):Ans Q (some r):=⟨r,rfl,h⟩
def IsI (r:PV×Bool):Prop:=∃n:Int,r=(.d (I n),false)
def IsB (r:PV×Bool):Prop:=∃b:Bool,r=(.d (.b b),false)
theorem qnc {x:Option (PV×Bool)} (h:Ans IsI x) : ∃n:Int,x=some (.d (I n),false):=by obtain⟨r,h1,n,h2⟩:=h;exact⟨n,by rw[h1,h2]⟩
theorem qp3 {x:Option (PV×Bool)} (h:Ans IsB x) : ∃b:Bool,x=some (.d (.b b),false):=by obtain⟨r,h1,n,h2⟩:=h;exact⟨n,by rw[h1,h2]⟩
theorem quT (T:Tab) (hT:HT T) (op:Int) : ∃n:Int,T.val 414 [I op]=some (.d (I n),false):=by
 rw[qae T (hT 414 qdg rfl) rfl];by_cases c1:op=1
 ·subst c1;refine⟨0,?_⟩
  simp[qdg,Fr.ofArgs]
 have d1:=qai c1
 by_cases c2:op=2
 ·subst c2;refine⟨0,?_⟩
  simp[qdg,Fr.ofArgs]
 have d2:=qai c2
 by_cases c3:op=3
 ·subst c3;refine⟨0,?_⟩
  simp[qdg,Fr.ofArgs]
 have d3:=qai c3
 by_cases c4:op=4
 ·subst c4;refine⟨0,?_⟩
  simp[qdg,Fr.ofArgs]
 have d4:=qai c4
 by_cases c9:op=9
 ·subst c9;refine⟨1,?_⟩
  simp[qdg,Fr.ofArgs]
 have d9:=qai c9
 by_cases c16:op=16
 ·subst c16;refine⟨1,?_⟩
  simp[qdg,Fr.ofArgs]
 have d16:=qai c16
 by_cases c19:op=19
 ·subst c19;refine⟨3,?_⟩
  simp[qdg,Fr.ofArgs]
 have d19:=qai c19
 by_cases h1:5≤op
 ·by_cases h2:op≤18
  ·refine⟨2,?_⟩;simp[qdg,Fr.ofArgs,d1,d2,d3,d4,d9,d16,d19,h1,h2]
  ·refine⟨-1,?_⟩;simp[qdg,Fr.ofArgs,d1,d2,d3,d4,d9,d16,d19,h1,h2]
 ·refine⟨-1,?_⟩;simp[qdg,Fr.ofArgs,d1,d2,d3,d4,d9,d16,d19,h1]
theorem qEC (T:Tab) (hT:HT T) (x:AExpr) : ∃b:Bool,T.val 408 [x.dv]=some (.d (.b b),false):=by
 apply qp3
 obtain⟨N,e⟩ : ∃N:Int→Int,∀op,T.val 414 [I op]=some (.d (I (N op)),false):=⟨fun op=>Classical.choose (quT T hT op),fun op=>Classical.choose_spec (quT T hT op)⟩
 rw[qae T (hT 408 qkk rfl) rfl];simp[qkk,Fr.ofArgs];repeat' (refine qim (fun h => ?_) (fun h => ?_)<;>(try simp at h)<;>(try simp[h,↓qa5,↓qa8,↓qaW,↓qbd,↓qaY,qaZ,↓qa1,↓qbh,↓qa2,↓qa3,↓qa7,↓qbH,↓qby,qaM,writeS,touchS,qam,qax,chg,qaK,qaB,qat,qaE,PV.refs,PV.refsL,IOp.okD,Nat.testBit,e]))
 all_goals exact qbM (show IsB _ from⟨_,rfl⟩)
theorem qji {α β:Type} [Nonempty β] {l:List α} {P:α→β→Prop} (h : ∀a∈l,∃b,P a b) : ∃g:α→β,∀a∈l,P a (g a) :=
 ⟨fun a=>Classical.epsilon (P a),fun a ha=>Classical.epsilon_spec (h a ha)⟩
theorem qky {x:AExpr} {l:List AExpr} (h:x.Args.l=l.map AExpr.dv) {a:AExpr} (ha:a∈l):SizeOf.sizeOf a.dv<SizeOf.sizeOf x.dv:=by
 have:=List.sizeOf_lt_of_mem (List.mem_map_of_mem (f:=AExpr.dv) ha)
 rw[←h] at this;simp only[AExpr.dv,DV.a.sizeOf_spec,List.cons.sizeOf_spec,DV.l.sizeOf_spec] at this⊢;omega
theorem qjG {x:AExpr} (hx:x.ok) : ∃l:List AExpr,x.Args.l=l.map AExpr.dv∧(∀a∈l,a.ok)∧l.length*56≤140737488355328:=by
 obtain⟨o,m,s,a⟩:=x;obtain⟨a,t⟩:=a;obtain⟨_,_,_,hX⟩:=hx;simp only at hX;obtain⟨h1,l,h2,h3⟩:=qtB hX;refine⟨l,h2,h3,?_⟩;cases hX with|mk _ _ _ h=>rw[h2] at h;simpa[qb9] using h
theorem qxX (T:Tab) (l:List AExpr) (t:Bool) (g:AExpr→Int) (hg : ∀a∈l,T.val 405 [a.dv]=some (.d (I (g a)),false)) (hn:l.length*56≤140737488355328) {k:KC (PV×Bool)} {r:Option (PV×Bool)} {fr:Fr} {H:Heap}
  (he:k (.exit 0) [(10,.d (.b false)),(9,.d (I l.length)),(8,.d (I l.length)),(7,.d (.l (K1 4) (l.map AExpr.dv) t)),(3,.d (I (l.foldl (fun n a=>IntKind.i64.wrap (n+g a)) 1)))] []=r)
  (h0:gc [3,7,8,9] 0 ⟨fr,H⟩=⟨[(9,.d (I 0)),(8,.d (I l.length)),(7,.d (.l (K1 4) (l.map AExpr.dv) t)),(3,.d (I 1))],[]⟩) :
  kC T.env 0 fr H (.h (.loop [3,7,8,9] qmj,k))=r:=by
 refine qhL (fun p:Nat×Int=>⟨[(9,.d (I p.1)),(8,.d (I l.length)),(7,.d (.l (K1 4) (l.map AExpr.dv) t)),(3,.d (I p.2))],[]⟩) (fun i=>(i,(l.take i).foldl (fun n a=>IntKind.i64.wrap (n+g a)) 1)) l.length ?_ ?_ (by rw[h0];rfl)
 ·intro B _;simp only[List.take_length];rw[←he];have h1 : ¬((l.length:Int)<l.length):=by omega
  simp[qmj]
 ·intro B _ i hi c hc;have h1:(i:Int)<l.length:=by omega
  have h3:=wr1 (i:=i) (by omega)
  have e:=hg l[i] (zzs hi)
  simp only[List.take_succ_eq_append_getElem hi,List.foldl_append,List.foldl_cons,List.foldl_nil] at hc;simp only;generalize (l.take i).foldl (fun n a=>IntKind.i64.wrap (n+g a)) 1=m at *
  simp[qmj,h1,hi,h3,e];exact hc _ _ (by simp[gc,Fr.keep,qad,qac,qab,PV.refs,gcH,PV.ren,Obj.ren,Heap.obj,Fr.ren,gh])
theorem qBh (T:Tab) (hT:HT T) : ∀(n:Nat) (x:AExpr),SizeOf.sizeOf x.dv<n→x.ok→∃v:Int,T.val 405 [x.dv]=some (.d (I v),false):=by
 intro n;induction n with
 |zero=>intro x h;exact absurd h (zzm _)
 |succ n ih =>
  intro x hn hx;obtain⟨l,h2,h3,h4⟩:=qjG hx;obtain⟨g,hg⟩:=qji (P:=fun a v=>T.val 405 [a.dv]=some (.d (I v),false)) (fun a ha=>ih a (by have:=qky h2 ha;omega) (h3 a ha))
  have lp:=fun k r fr H => @qxX T l x.Args.t g hg h4 k r fr H
  refine⟨l.foldl (fun n a=>IntKind.i64.wrap (n+g a)) 1,?_⟩
  rw[qae T (hT 405 qk7 rfl) rfl];obtain⟨o,m,s,a⟩:=x;obtain⟨a,t⟩:=a;simp only at h2 lp;subst h2;simp[qk7,Fr.ofArgs];refine lp _ _ _ _ ?_ (by simp[gc,Fr.keep,qad,qac,qab,PV.refs,gcH,PV.ren,Obj.ren,Heap.obj,Fr.ren,gh])
  simp
theorem qw3 (T:Tab) (l:List AExpr) (t:Bool) (g:AExpr→Int) (hg : ∀a∈l,T.val 406 [a.dv]=some (.d (I (g a)),false)) (hn:l.length*56≤140737488355328) {k:KC (PV×Bool)} {r:Option (PV×Bool)} {fr:Fr} {H:Heap}
  (he:k (.exit 0) [(10,.d (.b false)),(9,.d (I l.length)),(8,.d (I l.length)),(7,.d (.l (K1 4) (l.map AExpr.dv) t)),(3,.d (I (l.foldl (fun n a=>max n (g a)) 0)))] []=r)
  (h0:gc [3,7,8,9] 0 ⟨fr,H⟩=⟨[(9,.d (I 0)),(8,.d (I l.length)),(7,.d (.l (K1 4) (l.map AExpr.dv) t)),(3,.d (I 0))],[]⟩) :
  kC T.env 0 fr H (.h (.loop [3,7,8,9] qmG,k))=r:=by
 refine qhL (fun p:Nat×Int=>⟨[(9,.d (I p.1)),(8,.d (I l.length)),(7,.d (.l (K1 4) (l.map AExpr.dv) t)),(3,.d (I p.2))],[]⟩) (fun i=>(i,(l.take i).foldl (fun n a=>max n (g a)) 0)) l.length ?_ ?_ (by rw[h0];rfl)
 ·intro B _;simp only[List.take_length];rw[←he];have h1 : ¬((l.length:Int)<l.length):=by omega
  simp[qmG]
 ·intro B _ i hi c hc;have h1:(i:Int)<l.length:=by omega
  have h3:=wr1 (i:=i) (by omega)
  have e:=hg l[i] (zzs hi)
  simp only[List.take_succ_eq_append_getElem hi,List.foldl_append,List.foldl_cons,List.foldl_nil] at hc;simp only;generalize (l.take i).foldl (fun n a=>max n (g a)) 0=m at *
  simp[qmG,h1,hi,h3,e];exact hc _ _ (by simp[gc,Fr.keep,qad,qac,qab,PV.refs,gcH,PV.ren,Obj.ren,Heap.obj,Fr.ren,gh])
theorem qyZ (T:Tab) (hT:HT T) : ∀(n:Nat) (x:AExpr),SizeOf.sizeOf x.dv<n→x.ok→∃v:Int,T.val 406 [x.dv]=some (.d (I v),false):=by
 intro n;induction n with
 |zero=>intro x h;exact absurd h (zzm _)
 |succ n ih =>
  intro x hn hx;obtain⟨l,h2,h3,h4⟩:=qjG hx;obtain⟨g,hg⟩:=qji (P:=fun a v=>T.val 406 [a.dv]=some (.d (I v),false)) (fun a ha=>ih a (by have:=qky h2 ha;omega) (h3 a ha))
  have lp:=fun k r fr H => @qw3 T l x.Args.t g hg h4 k r fr H
  refine⟨IntKind.i64.wrap (l.foldl (fun n a=>max n (g a)) 0+1),?_⟩
  rw[qae T (hT 406 qkD rfl) rfl];obtain⟨o,m,s,a⟩:=x;obtain⟨a,t⟩:=a;simp only at h2 lp;subst h2;simp[qkD,Fr.ofArgs];refine lp _ _ _ _ ?_ (by simp[gc,Fr.keep,qad,qac,qab,PV.refs,gcH,PV.ren,Obj.ren,Heap.obj,Fr.ren,gh])
  simp
theorem qqz : ∀(H J:Heap),qab (H++J)=qab H++qab J
 | [],_=>rfl
 |x::H,J=>by rw[List.cons_append,qab,qab,qqz H J,List.append_assoc]
theorem qA0 {H:Heap} (hH:Cl H) (k k':K) (v:DV) (h:Nat):Cl (H++[some (.box k (.d v)),some (.box k' (.f h []))]):=by
 intro r hr;have:r∈qab H:=by simpa[qqz,qab,qaf,Obj.refs,PV.refs,PV.refsL] using hr
 have:=hH r this
 simp only[zzp,zzn,List.length_nil];omega
theorem qxm {H:Heap} (hH:Cl H) (k:K) (v:DV):Cl (H++[some (.box k (.d v))]):=by
 intro r hr;have:r∈qab H:=by simpa[qqz,qab,qaf,Obj.refs,PV.refs,PV.refsL] using hr
 have:=hH r this
 simp only[zzp,zzn,List.length_nil];omega
theorem qCc (T:Tab) (hT:HT T) (p:AExpr→Bool) (c:PV) (H0:Heap) (hH:Cl H0) (hc : ∀r∈PV.refsL [c],r<H0.length) (l:List AExpr) (hv : ∀x∈l,T.ref 413 [.d x.dv,c] H0=some (.d (.b (p x)),H0)) (s:Bool) (hn:l.length≤maxLen) :
  T.ref 412 [.d (.l (K1 4) (l.map AExpr.dv) s),.f 413 [c]] H0=some (.d (.b (l.any p)),H0):=by
 have e:=qlO T (show T.F 419=some (qhb (K1 4)) from hT 419 qmt rfl) 413 AExpr.dv p c [] H0 hH hc l hv s hn
 have ea:=qoj p l
 rw[qcz T (hT 412 qkv rfl) rfl];simp[qkv,Fr.ofArgs,e,qb2,qlu hH,ea]
theorem qrs (T:Tab) (hT:HT T) (h:Nat) (hp : ∀a:AExpr,a.ok→∃b:Bool,T.val h [a.dv]=some (.d (.b b),false)) : ∀(n:Nat) (x:AExpr),SizeOf.sizeOf x.dv<n→x.ok→∃b:Bool,∀H0,Cl H0→T.ref 407 [.d x.dv,.f h []] H0=some (.d (.b b),H0):=by
 intro n;induction n with
 |zero=>intro x h;exact absurd h (zzm _)
 |succ n ih =>
  intro x hn hx;obtain⟨l,h2,h3,h4⟩:=qjG hx;obtain⟨g,hg⟩:=qji (P:=fun a b=>∀H0,Cl H0→T.ref 407 [.d a.dv,.f h []] H0=some (.d (.b b),H0)) (fun a ha=>ih a (by have:=qky h2 ha;omega) (h3 a ha))
  obtain⟨b,hb⟩:=hp x hx;refine⟨b && !(l.any fun a => !(g a)),fun H0 hH => ?_⟩
  have hC:=qA0 hH (K1 4) K0 x.dv h
  have hm:=mxl
  have e412:=qCc T hT (fun a => !(g a)) (.p (H0.length+1) 0 0) _ hC (by simp[PV.refs,PV.refsL]) l (fun a ha=>by
   have e:=hg a ha _ (qxm hC (K1 4) a.dv)
   rw[qcz T (hT 413 qkS rfl) rfl];simp[qkS,Fr.ofArgs,qhp,qhD,List.append_assoc] at e⊢;rw[e];simp[qb2]
   have:=qgd hC [some (.box (K1 4) (.d a.dv))] (.b (!(g a)))
   simpa[List.append_assoc] using this) x.Args.t (by rw[hm];omega)
  obtain⟨o,m,s,a⟩:=x;obtain⟨a,t⟩:=a;simp only at h2;subst h2;rw[qcz T (hT 407 qjh rfl) rfl];have hg1:=qgd hH [some (.box (K1 4) (.d (AExpr.dv ⟨o,m,s,⟨l.map AExpr.dv,t⟩⟩))),some (.box K0 (.f h []))]
  cases b with
  |false =>
   simp[qjh,Fr.ofArgs,qhE,qhp,qh0,qhD,qgK,hb,qb2];exact hg1 _
  |true =>
   simp[qjh,Fr.ofArgs,qhE,qhp,qh0,qhD,qgK,hb,e412,qb2];exact hg1 _
def HNm (T:Tab):Prop:=∀s:List UInt8,s.length≤maxLen→∃b:Bool,T.val 415 [.s s]=some (.d (.b b),false)
theorem qzN (T:Tab) (hT:HT T) (hN:HNm T) (x:AExpr) (hx:x.ok) : ∃b:Bool,T.val 409 [x.dv]=some (.d (.b b),false):=by
 apply qp3
 obtain⟨b,e⟩:=hN x.S hx.2.2.1;rw[qae T (hT 409 qjZ rfl) rfl];simp[qjZ,Fr.ofArgs];repeat' (refine qim (fun h => ?_) (fun h => ?_)<;>(try simp at h)<;>(try simp[h,e]))
 all_goals exact qbM (show IsB _ from⟨_,rfl⟩)
theorem qyw (T:Tab) (hT:HT T) (hN:HNm T) (x:AExpr) (hx:x.ok) : ∃n:Int,T.val 399 [x.dv]=some (.d (I n),false):=by
 obtain⟨n,e1⟩:=qBh T hT _ x (Nat.lt_succ_self _) hx;obtain⟨m,e2⟩:=qyZ T hT _ x (Nat.lt_succ_self _) hx;obtain⟨b,e3⟩:=qrs T hT 408 (fun a _=>qEC T hT a) _ x (Nat.lt_succ_self _) hx
 obtain⟨c,e4⟩:=qrs T hT 409 (fun a ha=>qzN T hT hN a ha) _ x (Nat.lt_succ_self _) hx
 have e3':=e3 [some (.box (K1 4) (.d x.dv))] (by intro r hr;simp[qab,qaf,Obj.refs,PV.refs] at hr)
 have e4':=e4 [some (.box (K1 4) (.d x.dv))] (by intro r hr;simp[qab,qaf,Obj.refs,PV.refs] at hr)
 apply qnc
 rw[qae T (hT 399 qlb rfl) rfl];simp[qlb,Fr.ofArgs,e1];repeat' (refine qim (fun h => ?_) (fun h => ?_)<;>(try simp at h)<;>(try simp[h,e2,e3',e4']))
 all_goals exact qbM (show IsI _ from⟨_,rfl⟩)
end Go.Sim
end
end
section
namespace Go.Sim
theorem qhk {x y:List UInt8} (h : ¬x=y):(x==y)=false:=by simpa using h
end Go.Sim
end
section
open Go.Sim
attribute [local simp ↓] qeK qda qe3 qej qd4 qd3 qeP qde sqK blK lpK qdp qd1 qdh qdS qe4 qd6 qdV qd8 qdt qe0 qdc qdw qem qdH qes qer qdf qeD qea qeq qd2 qdU qeZ qdn qeL qeG qep qdi qc7 qeS qd7 qe5 qc9 qd9 qex qek qd5 qco qcE qdC qdX qdM qcV qdN qc8 qcU qeA qdr qds qec qei qc4 qeO qc5 qeV qdk qef qed qeH qdW qdy qdb qdZ qe1 qeE qc0 qcY qet qcZ qcx qdu qcQ qcW qdx qcs qeU qeC qev qd0 qeX qeg qdQ qeu qdv qdJ qdK qeJ qeR qdY qeI qfo qfH qfA qfV qfE qfS qfC qfD qfx qfO qfP qfJ qgB qfc
attribute [local simp] qcA qdm qdI qeo qey qdq qdG qdF qdL qeb qdB rd IOp.adds qap gh nid rgK rdS qeF qdO qeB qee qdR qdP qe7 qdE qeN qew qeY qeT qeh qeM qeQ qe6 qez qdz qe2 qel qdo qfl qfs qfm qfa qft qfd qfr qfG qfW qfB qfF
section
namespace Go.Sim
set_option maxRecDepth 10000
set_option maxHeartbeats 4000000
structure HC (T:Tab):Prop where
 ato : ∀ds,T.val 451 ds=qj6 ds
 par : ∀ds,T.val 440 ds=qls ds
 cnt : ∀ds,T.val 423 ds=qni ds
section
variable {R : Type} {E : Env} {ρ : Rand → PV} {H : Heap} {id : Nat} {q : PV → Heap → Option R}
theorem qtK {neg:Bool} {kd:Nat} {x:Rand}:bo2 (qaa E ρ H id (.isnil neg kd x)) (.h q)=bo (qff kd (ρ x)) (.h fun b=>q (.d (.b (if neg=true then !b else b))) H):=by
 simp only[qaa];cases qff kd (ρ x)<;>rfl
end
section
variable {R : Type} {E : Env} {base : Nat}
theorem qjp {σ:Type} {live:List Nat} {body:PC} {k:KC R} {Q:R→Prop} (st:σ→St) (inv:σ→Prop) (μ:σ→Nat)
  (hround : ∀B,B=body→∀s,inv s→(∀s',inv s'→μ s'<μ s→∀fr H,gc live base ⟨fr,H⟩=st s'→Ans Q (kC E base fr H (.h (.loop live B,k))))→Ans Q (kC E base (st s).fr (st s).H (.h (body,lpK E base live B k))))
  (s:σ) (hs:inv s) {fr:Fr} {H:Heap} (h0:gc live base ⟨fr,H⟩=st s):Ans Q (kC E base fr H (.h (.loop live body,k))):=by
 have key : ∀(n:Nat) (s:σ),μ s<n→inv s→∀fr H,gc live base ⟨fr,H⟩=st s→Ans Q (kC E base fr H (.h (.loop live body,k))):=by
  intro n;induction n with
  |zero=>intro s h;exact absurd h (zzm _)
  |succ n ih =>
   intro s hn hv fr H hg;rw[qlD,hg];exact hround body rfl s hv fun s' hv' hm fr' H' hg'=>ih s' (by omega) hv' fr' H' hg'
 exact key (μ s+1) s (Nat.lt_succ_self _) hs fr H h0
end
def qjT (n:Int):Bool:=decide (97≤n)&&decide (n≤122)
def qb7 (n:Int):Bool:=decide (48≤n)&&decide (n≤57)
def qgq (n:Int):Bool:=qjT n||(qb7 n||decide (n=95))
def qhT (n:Int):Bool:=qgq n||(decide (n=46)||decide (n=37))
theorem qvQ (T:Tab) (hT:HT T) (n:Int):T.val 429 [.i .i32 n]=some (.d (.b (qjT n)),false):=by
 rw[qae T (hT 429 qiH rfl) rfl];unfold qjT;by_cases h:97≤n
 ·simp[qiH,Fr.ofArgs,h]
 ·simp[qiH,Fr.ofArgs,h]
theorem qnr (T:Tab) (hT:HT T) (n:Int):T.val 432 [.i .i32 n]=some (.d (.b (qb7 n)),false):=by
 rw[qae T (hT 432 qiT rfl) rfl];unfold qb7;by_cases h:48≤n
 ·simp[qiT,Fr.ofArgs,h]
 ·simp[qiT,Fr.ofArgs,h]
theorem qsL (T:Tab) (hT:HT T) (n:Int):T.val 430 [.i .i32 n]=some (.d (.b (qgq n)),false):=by
 have e1:=qvQ T hT n
 have e2:=qnr T hT n
 rw[qae T (hT 430 qhw rfl) rfl];unfold qgq;generalize qjT n=b1 at *
 generalize qb7 n=b2 at *
 cases b1 with
 |true=>simp[qhw,Fr.ofArgs,e1]
 |false =>
  cases b2 with
  |true=>simp[qhw,Fr.ofArgs,e1,e2]
  |false =>
   by_cases h:n=95
   ·subst h;simp[qhw,Fr.ofArgs,e1,e2]
   ·have g:=qai h
    simp[qhw,Fr.ofArgs,e1,e2,h,g]
theorem qzc (T:Tab) (hT:HT T) (n:Int):T.val 434 [.i .i32 n]=some (.d (.b (qhT n)),false):=by
 have e1:=qsL T hT n
 rw[qae T (hT 434 qhd rfl) rfl];unfold qhT;generalize qgq n=b1 at *
 cases b1 with
 |true=>simp[qhd,Fr.ofArgs,e1]
 |false =>
  by_cases h:n=46
  ·subst h;simp[qhd,Fr.ofArgs,e1]
  ·have g:=qai h
   by_cases h2:n=37
   ·subst h2;simp[qhd,Fr.ofArgs,e1]
   ·have g2:=qai h2
    simp[qhd,Fr.ofArgs,e1,h,g,h2,g2]
theorem qFF (T:Tab) (hT:HT T) (n:Int):T.val 426 [.i .i32 n]=some (.d (.b (!decide (n=10))),false):=by
 rw[qae T (hT 426 qjm rfl) rfl];by_cases h:n=10
 ·simp[qjm,Fr.ofArgs,h,bne]
 ·have g:=qai h
  simp[qjm,Fr.ofArgs,h,g,bne]
def cN (c:UInt8):Int:=(c.toNat:Int)
theorem qz9 (T:Tab) (h:Nat) (p:Int→Bool) (hp : ∀n,T.val h [.i .i32 n]=some (.d (.b (p n)),false)) (s:List UInt8) (hs:s.length≤maxLen) (H0:Heap) (hH:Cl H0) {k:KC (PV×Heap)} {r:Option (PV×Heap)} {fr:Fr} {H:Heap}
  (he : ∀b,k (.exit 0) [(17,.d (.b b)),(5,.d (I (s.takeWhile fun c=>p (cN c)).length)),(1,.f h []),(0,.d (.s s))] H0=r)
  (h0:gc [0,1,5] H0.length ⟨fr,H⟩=⟨[(5,.d (I 0)),(1,.f h []),(0,.d (.s s))],H0⟩) :
  kC T.env H0.length fr H (.h (.loop [0,1,5] qkx,k))=r:=by
 refine qfT (fun i:Nat=>⟨[(5,.d (I i)),(1,.f h []),(0,.d (.s s))],H0⟩) (fun i=>i≤s.length∧(s.takeWhile fun c=>p (cN c)).length=i+((s.drop i).takeWhile fun c=>p (cN c)).length) (fun i=>s.length-i) ?_ 0 ⟨Nat.zero_le _,by simp⟩ h0
 rintro B-i ⟨hi,ha⟩ hx;have hm:=mxl
 by_cases hlt:i<s.length
 ·have h1:(i:Int)<s.length:=by omega
  have h3:=wr1 (i:=i) (by omega)
  have w32:IntKind.i32.wrap ((s[i].toNat:Nat):Int)=cN s[i]:=by
   rw[IntKind.wrap_i32];have:=s[i].toNat_lt;unfold cN;omega
  have e:=hp (cN s[i])
  rw[List.drop_eq_getElem_cons hlt,List.takeWhile_cons] at ha;cases hk:p (cN s[i]) with
  |true =>
   rw[hk] at e;rw[hk,if_pos rfl,zzn] at ha;have hx':=hx (i+1) ⟨by omega,by omega⟩ (by omega)
   simp[qkx,h1,hlt,h3,↓qbY,↓qcl,↓qaX,↓qbQ,w32,e];exact hx' _ _ (by rw[qkE _ hH (by simp[qac,Fr.keep,PV.refs,PV.refsL,gh])];simp[Fr.keep,gh])
  |false =>
   rw[hk] at e;rw[hk] at ha;simp only[zzg,if_false,List.length_nil,Nat.add_zero] at ha;rw[ha] at he;have he':=he false
   simp[qkx,h1,hlt,↓qbY,↓qcl,↓qaX,↓qbQ,w32,e];exact he'
 ·have:i=s.length:=by omega
  subst this;rw[List.drop_of_length_le (zzt _),List.takeWhile_nil,List.length_nil,Nat.add_zero] at ha;rw[ha] at he;have he':=he false
  have h1 : ¬((s.length:Int)<s.length):=by omega
  simp[qkx];exact he'
theorem qvl {α:Type} (p:α→Bool) (s:List α):s.take (s.takeWhile p).length=s.takeWhile p:=by
 induction s with
 |nil=>rfl
 |cons x r ih =>
  rw[List.takeWhile_cons];by_cases h:p x=true
  ·rw[if_pos h,zzn,List.take_succ_cons,ih]
  ·rw[if_neg h];rfl
theorem qmI {α:Type} (p:α→Bool) (s:List α):(s.takeWhile p).length≤s.length:=by
 have:=congrArg List.length (qvl p s)
 rw[List.length_take] at this;omega
theorem qkP (T:Tab) (hT:HT T) (h:Nat) (p:Int→Bool) (hp : ∀n,T.val h [.i .i32 n]=some (.d (.b (p n)),false)) (s:List UInt8) (hs:s.length≤maxLen) (H0:Heap) (hH:Cl H0) :
  T.ref 425 [.d (.s s),.f h []] H0=some (.d (.s (s.takeWhile fun c=>p (cN c))),H0):=by
 have lp:=fun k r fr H => @qz9 T h p hp s hs H0 hH k r fr H
 have hl:=qmI (fun c=>p (cN c)) s
 have ht:=qvl (fun c=>p (cN c)) s
 generalize s.takeWhile (fun c=>p (cN c))=w at *
 have hl':(w.length:Int)≤s.length:=by omega
 rw[qcz T (hT 425 qj9 rfl) rfl];simp[qj9,Fr.ofArgs];refine lp _ _ _ _ (fun b => ?_) (by rw[qkE _ hH (by simp[qac,Fr.keep,PV.refs,PV.refsL,gh])];simp[Fr.keep,gh])
 simp[hl',ht,qb2,qlu hH]
def qpZ (s:List UInt8) (r:PV×Bool):Prop:=∃n:Nat,r=(.d (I n),false)∧n≤s.length
theorem qAp (T:Tab) (hT:HT T) (s:List UInt8) (hs:s.length≤2048):Ans (qpZ s) (T.val 422 [.s s]):=by
 have hm:=mxl
 rw[qae T (hT 422 qj4 rfl) rfl];simp[qj4,Fr.ofArgs];refine qjp (fun i:Nat=>⟨[(3,.d (I i)),(0,.d (.s s))],[]⟩) (fun i=>i≤s.length) (fun i=>s.length-i) ?_ 0 (Nat.zero_le _) (by simp[gc,Fr.keep,qad,qac,qab,PV.refs,gcH,PV.ren,Obj.ren,Heap.obj,Fr.ren,gh])
 rintro B-i hi hx;by_cases hlt:i<s.length
 ·have h1:(i:Int)<s.length:=by omega
  have h1':(i:Int)≤s.length:=by omega
  have hle:i≤s.length:=by omega
  have h3:=wr1 (i:=i) (by omega)
  have e:=qkP T hT 426 (fun n => !decide (n=10)) (fun n=>qFF T hT n) (s.drop i) (by rw[List.length_drop,hm];omega) [] qrb
  obtain⟨w,hw⟩ : ∃w,(s.drop i).takeWhile (fun c => !decide (cN c=10))=w:=⟨_,rfl⟩
  have hwl:=qmI (fun c => !decide (cN c=10)) (s.drop i)
  rw[hw,List.length_drop] at hwl;simp only[hw] at e;have h5:IntKind.i64.wrap ((i:Int)+(w.length:Int))=((i+w.length:Nat):Int):=by rw[wrI (by omega) (by omega)];omega
  by_cases b1:((s[i].toNat:Nat):Int)=32
  ·have hx':=hx (i+1) (by omega) (by omega)
   simp[qh8,h1,hlt,h3,↓qbY,↓qcl,b1];exact hx' _ _ (by simp[gc,Fr.keep,qad,qac,qab,PV.refs,gcH,PV.ren,Obj.ren,Heap.obj,Fr.ren,gh])
  have g1:=qai b1
  by_cases b2:((s[i].toNat:Nat):Int)=9
  ·have hx':=hx (i+1) (by omega) (by omega)
   simp[qh8,h1,hlt,h3,↓qbY,↓qcl,b2];exact hx' _ _ (by simp[gc,Fr.keep,qad,qac,qab,PV.refs,gcH,PV.ren,Obj.ren,Heap.obj,Fr.ren,gh])
  have g2:=qai b2
  by_cases b3:((s[i].toNat:Nat):Int)=10
  ·have hx':=hx (i+1) (by omega) (by omega)
   simp[qh8,h1,hlt,h3,↓qbY,↓qcl,b3];exact hx' _ _ (by simp[gc,Fr.keep,qad,qac,qab,PV.refs,gcH,PV.ren,Obj.ren,Heap.obj,Fr.ren,gh])
  have g3:=qai b3
  by_cases b4:((s[i].toNat:Nat):Int)=35
  ·have hpos:0<w.length:=by
    rw[List.drop_eq_getElem_cons hlt,List.takeWhile_cons,if_pos (by unfold cN;rw[b4];decide)] at hw
    rw[←hw];simp
   have hx':=hx (i+w.length) (by omega) (by omega)
   simp[qh8,h1,h1',hlt,↓qbY,↓qcl,b4,e,h5];exact hx' _ _ (by simp[gc,Fr.keep,qad,qac,qab,PV.refs,gcH,PV.ren,Obj.ren,Heap.obj,Fr.ren,gh])
  have g4:=qai b4
  simp[qh8,h1,hlt,↓qbY,↓qcl,g1,g2,g3,g4];exact qbM (show qpZ s _ from⟨i,rfl,hi⟩)
 ·have h1 : ¬((i:Int)<s.length):=by omega
  simp[qh8,h1];exact qbM (show qpZ s _ from⟨i,rfl,hi⟩)
theorem qEo (T:Tab) (hT:HT T) (s:List UInt8) (hs:s.length≤2048) : ∃n:Nat,n≤s.length∧T.val 422 [.s s]=some (.d (I n),false):=by
 obtain⟨r,h1,n,h2,h3⟩:=qAp T hT s hs;exact⟨n,h3,by rw[h1,h2]⟩
def qip (s:List UInt8):Bool:=match s with
 | []=>false
 |c::r=>decide ((c::r).takeWhile (fun c=>qb7 (cN c))=c::r)&&(decide (r=[]) || !decide (cN c=48))
theorem qsG (T:Tab) (hT:HT T) (s:List UInt8) (hs:s.length≤2048):T.val 439 [.s s]=some (.d (.b (qip s)),false):=by
 have hm:=mxl
 have e:=qkP T hT 432 qb7 (fun n=>qnr T hT n) s (by rw[hm];omega) [] qrb
 rw[qae T (hT 439 qgF rfl) rfl];cases s with
 |nil=>simp[qgF,Fr.ofArgs,qip]
 |cons c r =>
  have hI:qip (c::r)=(decide ((c::r).takeWhile (fun c=>qb7 (cN c))=c::r)&&(decide (r=[]) || !decide (cN c=48))):=rfl
  rw[hI];generalize (c::r).takeWhile (fun c=>qb7 (cN c))=w at *
  by_cases h1:w=c::r
  ·subst h1;by_cases h2:r=[]
   ·subst h2;simp[qgF,Fr.ofArgs,e]
   ·have l0:r.length≠0:=fun h=>h2 (List.length_eq_zero_iff.1 h)
    have l1 : ¬((r.length:Int)+1=1):=by omega
    have g1:=qai l1
    unfold cN;by_cases h3:((c.toNat:Nat):Int)=48
    ·simp[qgF,Fr.ofArgs,e,h2,g1,↓qbY,↓qcl,h3,bne]
    ·have g3:=qai h3
     simp[qgF,Fr.ofArgs,e,h2,g1,↓qbY,↓qcl,h3,g3,bne]
  ·have g1:=qhk h1
   simp[qgF,Fr.ofArgs,e,h1,g1]
theorem qqV {α:Type} {p:α→Bool} {x:α} : ∀{l:List α},x∈l.takeWhile p→p x=true
 | [],h=>by cases h
 |y::l,h=>by
  rw[List.takeWhile_cons] at h;by_cases c:p y=true
  ·rw[if_pos c] at h;rcases List.mem_cons.1 h with h|h
   ·rw[h];exact c
   ·exact qqV h
  ·rw[if_neg c] at h;cases h
theorem qCs {s:List UInt8} (h:qip s=true):s≠[]∧∀c∈s,qb7 (cN c)=true:=by
 cases s with
 |nil=>cases h
 |cons c r =>
  simp only[qip,zzf,zzq] at h;refine⟨by simp,fun d hd => ?_⟩
  rw[←h.1] at hd;exact qqV (p:=fun c=>qb7 (cN c)) hd
theorem quM {c:UInt8} (h:qb7 (cN c)=true):48≤c.toNat∧c.toNat≤57:=by
 simp only[qb7,zzf,zzq] at h;unfold cN at h;omega
theorem qvj : ∀(l:List UInt8) (a:Nat),(∀c∈l,qb7 (cN c)=true)→∃n,Lib.decFrom a l=some n
 | [],a,_=>⟨a,rfl⟩
 |c::r,a,h=>by
  have hc:=h c (by simp)
  have hc:=quM hc
  have e:Lib.digitVal c=some (c.toNat-48):=by unfold Lib.digitVal;rw[if_pos (by omega)]
  obtain⟨n,hn⟩:=qvj r (a*10+(c.toNat-48)) (fun d hd=>h d (by simp[hd]))
  exact⟨n,by rw[Lib.decFrom,e];exact hn⟩
theorem qEn {l:List UInt8} (h0:l≠[]) (h : ∀c∈l,qb7 (cN c)=true) : ∃v,Lib.atoi l=some v:=by
 cases l with
 |nil=>exact absurd rfl h0
 |cons c r =>
  have hc:=h c (by simp)
  have hc:=quM hc
  obtain⟨n,hn⟩:=qvj (c::r) 0 h;refine⟨(n:Int),?_⟩;have b1:(c==45)=false:=by
   simp only[beq_eq_false_iff_ne,ne_eq];intro e;rw[e] at hc;revert hc;decide
  have b2:(c==43)=false:=by
   simp only[beq_eq_false_iff_ne,ne_eq];intro e;rw[e] at hc;revert hc;decide
  rw[Lib.atoi,b1,b2];simp only[zzg,if_false,Lib.decNat,List.isEmpty_cons,hn,Option.map_some]
end Go.Sim
end
section
namespace Go.Sim
set_option maxRecDepth 10000
set_option maxHeartbeats 4000000
theorem qu8 (c:Nat) : ∀(l:List UInt8) (k i:Nat),ixB c l k=some i→k≤i∧i<k+l.length
 | [],k,i,h=>by cases h
 |x::r,k,i,h=>by
  rw[ixB] at h;by_cases e:Nat.beq x.toNat c=true
  ·rw[if_pos e] at h;injection h with h
   subst h;simp
  ·rw[if_neg e] at h
   have:=qu8 c r (k+1) i h
   simp only[zzn];omega
def ixI (c:Nat) (s:List UInt8):Int:=match ixB c s 0 with|some i=>(i:Int)|none=>-1
theorem qC5 (c:Nat) (s:List UInt8):ixI c s = -1∨∃i:Nat,ixI c s=(i:Int)∧i<s.length:=by
 unfold ixI;cases h:ixB c s 0 with
 |none=>exact .inl rfl
 |some i=>exact .inr ⟨i,rfl,by have:=qu8 c s 0 i h;omega⟩
theorem qxC (T:Tab) (hT:HT T) (s:List UInt8):T.val 443 [.s s,.i .u8 46]=some (.d (I (ixI 46 s)),false):=by
 have e:qfU 2 [.d (.s s),.d (.i .u8 46)]=some (.d (I (ixI 46 s))):=rfl
 rw[qae T (hT 443 qkI rfl) rfl];simp[qkI,Fr.ofArgs,↓qlB,e]
theorem qDE (T:Tab) (hT:HT T) (s:List UInt8):T.val 436 [.s s,.s [46]]=some (.d (I (ixI 46 s)),false):=by
 have e:=qxC T hT s
 by_cases hs:[46]=s
 ·subst hs;rw[show ixI 46 [46]=0 from rfl,qae T (hT 436 qij rfl) rfl]
  simp[qij,Fr.ofArgs]
 ·have g:=qhk hs
  rw[qae T (hT 436 qij rfl) rfl];simp[qij,Fr.ofArgs,g,↓qbY,↓qcl,e]
theorem qB5 (T:Tab) (hT:HT T) (s:List UInt8) (hs:s.length≤2048) : ∃a b f,T.val 461 [.s s,.s [46]]=some (.t [.d (.s a),.d (.s b),.d (.b f)],false)∧(f=false→b=[])∧b.length≤2048∧a.length≤2048:=by
 have e:=qDE T hT s
 rcases qC5 46 s with h|⟨i,h,hi⟩
 ·refine⟨s,[],false,?_,fun _=>rfl,by simp,hs⟩
  rw[h] at e;rw[qae T (hT 461 qir rfl) rfl];simp[qir,Fr.ofArgs,e]
 ·refine⟨s.take i,s.drop (i+1),true,?_,(fun h=>by cases h),by rw[List.length_drop];omega,by rw[List.length_take];omega⟩
  rw[h] at e;have w:IntKind.i64.wrap ((i:Int)+1)=((i+1:Nat):Int):=by rw[wrI (by omega) (by omega)];omega
  have g1:(i:Int)≤s.length:=by omega
  have g2:i≤s.length:=by omega
  have g3:((i+1:Nat):Int)≤s.length:=by omega
  have g4:i+1≤s.length:=by omega
  rw[qae T (hT 461 qir rfl) rfl];obtain⟨j,hj⟩ : ∃j,i+1=j:=⟨_,rfl⟩;rw[hj] at w g3 g4⊢;have g5:(0:Int)≤(j:Int):=by omega
  simp[qir,Fr.ofArgs,e,↓qa5,↓qa8,↓qaW,↓qaY,qaZ,↓qa1,↓qa3,↓qbp,↓qbH,qaM,writeS,touchS,qam,qax,chg,qaB,qat,qaE,PV.refs,IOp.okD,Nat.testBit,w,g1,g3,g5,↓qc0,↓qcY]
theorem qFe (T:Tab) (hT:HT T) (s:List UInt8) (hs:s.length≤2048) : ∃a b f,T.val 450 [.s s,.s [46]]=some (.t [.d (.s a),.d (.s b),.d (.b f)],false)∧(f=false→b=[])∧b.length≤2048∧a.length≤2048:=by
 obtain⟨a,b,f,e,h⟩:=qB5 T hT s hs;refine⟨a,b,f,?_,h⟩;rw[qae T (hT 450 qj8 rfl) rfl];simp[qj8,Fr.ofArgs,e]
theorem qGc (T:Tab) (hT:HT T) (s:List UInt8) (hs:s.length≤2048) : ∃b:Bool,T.val 468 [.s s,.s [37]]=some (.d (.b b),false)∧(b=true→1≤s.length):=by
 rw[qae T (hT 468 qjz rfl) rfl];by_cases h:1≤s.length
 ·have w:IntKind.i64.wrap ((s.length:Int)-1)=((s.length-1:Nat):Int):=by rw[wrI (by omega) (by omega)];omega
  obtain⟨j,hj⟩ : ∃j,s.length-1=j:=⟨_,rfl⟩;rw[hj] at w;have g1:(j:Int)≤s.length:=by omega
  have g2:j≤s.length:=by omega
  have g3:(1:Int)≤s.length:=by omega
  refine⟨(s.drop j==[37]),?_,fun _=>h⟩
  simp[qjz,Fr.ofArgs,g3,w,g1]
 ·have g3 : ¬((1:Int)≤s.length):=by omega
  refine⟨false,?_,(fun h=>by cases h)⟩
  simp[qjz,Fr.ofArgs,g3]
theorem qzK (T:Tab) (hT:HT T) (s:List UInt8) (hs:s.length≤2048) : ∃a b,T.val 460 [.s s,.s [37]]=some (.t [.d (.s a),.d (.b b)],false)∧a.length≤2048:=by
 obtain⟨b,e,hb⟩:=qGc T hT s hs;rw[qae T (hT 460 qiS rfl) rfl];cases b with
 |false =>
  refine⟨s,false,?_,hs⟩;simp[qiS,Fr.ofArgs,e]
 |true =>
  have h:=hb rfl
  have w:IntKind.i64.wrap ((s.length:Int)-1)=((s.length-1:Nat):Int):=by rw[wrI (by omega) (by omega)];omega
  obtain⟨j,hj⟩ : ∃j,s.length-1=j:=⟨_,rfl⟩;rw[hj] at w;have g1:(j:Int)≤s.length:=by omega
  have g2:j≤s.length:=by omega
  refine⟨s.take j,true,?_,by rw[List.length_take];omega⟩
  simp[qiS,Fr.ofArgs,e,w,g1]
theorem qAb (T:Tab) (hT:HT T) (s:List UInt8) (hs:s.length≤2048) : ∃a b,T.val 449 [.s s,.s [37]]=some (.t [.d (.s a),.d (.b b)],false)∧a.length≤2048:=by
 obtain⟨a,b,e,h⟩:=qzK T hT s hs;refine⟨a,b,?_,h⟩;rw[qae T (hT 449 qkL rfl) rfl];simp[qkL,Fr.ofArgs,e]
def qfk (p:List UInt8):List UInt8:=p++List.replicate (4-p.length) 48
theorem qtS (T:Tab) (w p:List UInt8) (hp:p.length≤4) {k:KC (PV×Bool)} {r:Option (PV×Bool)} {fr:Fr} {H:Heap}
  (he:k (.exit 0) [(60,.d (.b false)),(7,.d (.s (qfk p))),(6,.d (.s w))] []=r)
  (h0:gc [6,7] 0 ⟨fr,H⟩=⟨[(7,.d (.s p)),(6,.d (.s w))],[]⟩) :
  kC T.env 0 fr H (.h (.loop [6,7] qmB,k))=r:=by
 refine qfT (fun q:List UInt8=>⟨[(7,.d (.s q)),(6,.d (.s w))],[]⟩) (fun q=>q.length≤4∧qfk q=qfk p) (fun q=>4-q.length) ?_ p ⟨hp,rfl⟩ h0
 rintro B-q ⟨hq,ha⟩ hx;by_cases hlt:q.length<4
 ·have h1:(q.length:Int)<4:=by omega
  have hx':=hx (q++[48]) ⟨by simp;omega,by
   rw[←ha];unfold qfk;rw[List.append_assoc,zzp,zzn,List.length_nil,show 4-q.length=4-(q.length+(0+1))+1 by omega,List.replicate_succ]
   rfl⟩ (by simp;omega)
  have h2:q.length+1<4611686018427387904:=by omega
  simp[qmB,h1,h2];exact hx' _ _ (by simp[gc,Fr.keep,qad,qac,qab,PV.refs,gcH,PV.ren,Obj.ren,Heap.obj,Fr.ren,gh])
 ·have h1 : ¬((q.length:Int)<4):=by omega
  have e:qfk p=q:=by
   rw[←ha];unfold qfk
   rw[show 4-q.length=0 by omega];simp
  rw[e] at he;simp[qmB,h1];exact he
theorem qCY {p:List UInt8} (h : ∀c∈p,qb7 (cN c)=true) : ∀c∈qfk p,qb7 (cN c)=true:=by
 intro c hc;rcases List.mem_append.1 hc with hc|hc
 ·exact h c hc
 ·rw[(List.mem_replicate.1 hc).2];decide
theorem qoF {p:List UInt8} (h:p.length≤4):(qfk p).length=4:=by
 unfold qfk;rw[zzp,List.length_replicate];omega
theorem qBZ (T:Tab) (hT:HT T) (hC:HC T) (s:List UInt8) (hs:s.length≤2048) : ∃p:Int×Int,T.val 441 [.s s]=some (two p):=by
 obtain⟨t,ok,e449,ht⟩:=qAb T hT s hs;obtain⟨a,b,f,e450,hf,hb,ha⟩:=qFe T hT t ht;have e439:=qsG T hT a ha
 have hm:=mxl
 have e425:=qkP T hT 432 qb7 (fun n=>qnr T hT n) b (by rw[hm];omega) [] qrb
 rw[qae T (hT 441 qcN rfl) rfl];unfold two;cases ok with
 |false =>
  refine⟨(0,2),?_⟩;simp[qcN,Fr.ofArgs,e449,e450]
 |true =>
  cases hi:qip a with
  |false =>
   rw[hi] at e439;refine⟨(0,2),?_⟩;simp[qcN,Fr.ofArgs,e449,e450,e439]
  |true =>
   rw[hi] at e439;obtain⟨a0,ad⟩:=qCs hi;have tail : ∀(p:List UInt8),p.length≤4→(∀c∈p,qb7 (cN c)=true)→¬(3<a.length)→∃v:Int,T.val 451 [.s (a++qfk p)]=some (.t [.d (I v),.d .ni],false):=by
    intro p hp hd h3;obtain⟨v,hv⟩:=qEn (l:=a++qfk p) (by simp[a0]) (fun c hc=>by
     rcases List.mem_append.1 hc with hc|hc
     ·exact ad c hc
     ·exact qCY hd c hc)
    refine⟨v,?_⟩;rw[hC.ato];simp only[qj6];rw[if_pos (by rw[zzp,qoF hp];omega),hv]
   cases f with
   |false =>
    have hbn:=hf rfl
    subst hbn;by_cases h3:3<a.length
    ·have g3:(3:Int)<a.length:=by omega
     refine⟨(0,1),?_⟩;simp[qcN,Fr.ofArgs,e449,e450,e439,g3]
    ·have g3 : ¬((3:Int)<a.length):=by omega
     obtain⟨v,ev⟩:=tail [] (by simp) (by simp) h3
     have lp:=fun k r fr H => @qtS T a [] (by simp) k r fr H
     have pl:=qoF (p:=[]) (by simp)
     generalize qfk []=q at *
     have hlen:a.length+4<4611686018427387904:=by omega
     by_cases hv:1000000<v
     ·refine⟨(0,1),?_⟩;simp[qcN,Fr.ofArgs,e449,e450,e439,g3];refine lp _ _ _ _ ?_ (by simp[gc,Fr.keep,qad,qac,qab,PV.refs,gcH,PV.ren,Obj.ren,Heap.obj,Fr.ren,gh])
      simp[pl,hlen,ev,hv]
     ·refine⟨(v,0),?_⟩;simp[qcN,Fr.ofArgs,e449,e450,e439,g3];refine lp _ _ _ _ ?_ (by simp[gc,Fr.keep,qad,qac,qab,PV.refs,gcH,PV.ren,Obj.ren,Heap.obj,Fr.ren,gh])
      simp[pl,hlen,ev,hv]
   |true =>
    by_cases b0:b=[]
    ·refine⟨(0,2),?_⟩;simp[qcN,Fr.ofArgs,e449,e450,e439,b0]
    have gb0:=qhk b0
    by_cases b4:4<b.length
    ·have g4:(4:Int)<b.length:=by omega
     refine⟨(0,2),?_⟩;simp[qcN,Fr.ofArgs,e449,e450,e439,gb0,g4]
    have g4 : ¬((4:Int)<b.length):=by omega
    by_cases bd:b.takeWhile (fun c=>qb7 (cN c))=b
    ·rw[bd] at e425;have hbd : ∀c∈b,qb7 (cN c)=true:=fun c hc=>by
      rw[←bd] at hc;exact qqV (p:=fun c=>qb7 (cN c)) hc
     have l0:b.length≠0:=fun h=>b0 (List.length_eq_zero_iff.1 h)
     have w:IntKind.i64.wrap ((b.length:Int)-1)=((b.length-1:Nat):Int):=by rw[wrI (by omega) (by omega)];omega
     obtain⟨j,hj⟩ : ∃j,b.length-1=j:=⟨_,rfl⟩;rw[hj] at w;have hjl:j<b.length:=by omega
     obtain⟨c,hc⟩ : ∃c,b[j]? = some c:=⟨_,zze hjl⟩;by_cases bc:((c.toNat:Nat):Int)=48
     ·refine⟨(0,2),?_⟩;simp[qcN,Fr.ofArgs,e449,e450,e439,gb0,g4,e425,w,hc,↓qbY,↓qcl,bc]
     ·have gbc:=qai bc
      by_cases h3:3<a.length
      ·have g3:(3:Int)<a.length:=by omega
       refine⟨(0,1),?_⟩;simp[qcN,Fr.ofArgs,e449,e450,e439,gb0,g4,e425,w,hc,↓qbY,↓qcl,gbc,g3]
      ·have g3 : ¬((3:Int)<a.length):=by omega
       obtain⟨v,ev⟩:=tail b (by omega) hbd h3
       have lp:=fun k r fr H => @qtS T a b (by omega) k r fr H
       have pl:=qoF (p:=b) (by omega)
       generalize qfk b=q at *
       have hlen:a.length+4<4611686018427387904:=by omega
       by_cases hv:1000000<v
       ·refine⟨(0,1),?_⟩;simp[qcN,Fr.ofArgs,e449,e450,e439,gb0,g4,e425,w,hc,↓qbY,↓qcl,gbc,g3];refine lp _ _ _ _ ?_ (by simp[gc,Fr.keep,qad,qac,qab,PV.refs,gcH,PV.ren,Obj.ren,Heap.obj,Fr.ren,gh])
        simp[pl,hlen,ev,hv]
       ·refine⟨(v,0),?_⟩;simp[qcN,Fr.ofArgs,e449,e450,e439,gb0,g4,e425,w,hc,↓qbY,↓qcl,gbc,g3];refine lp _ _ _ _ ?_ (by simp[gc,Fr.keep,qad,qac,qab,PV.refs,gcH,PV.ren,Obj.ren,Heap.obj,Fr.ren,gh])
        simp[pl,hlen,ev,hv]
    ·have gbd:=qhk bd
     generalize b.takeWhile (fun c=>qb7 (cN c))=w at *
     refine⟨(0,2),?_⟩;simp[qcN,Fr.ofArgs,e449,e450,e439,gb0,g4,e425,gbd]
structure ATok where
 (Kind Line:Int)
 Text:List UInt8
def ATok.cells (x:ATok):List DV:=[I x.Kind,I x.Line,.s x.Text]
def ATok.dv (x:ATok):DV:=.a [I x.Kind,I x.Line,.s x.Text]
@[simp] theorem ATok.fits (x:ATok):Sim.fits (K1 3) (.d (ATok.dv x))=true:=rfl
@[simp] theorem ATok.purT (x:ATok) (H:Heap):Sim.purT H (.d (ATok.dv x))=some (.d (ATok.dv x),false):=rfl
@[simp] theorem ATok.clen (x:ATok):(ATok.dv x).cells.length=3:=rfl
@[simp] theorem ATok.aof (x:ATok):DV.a (ATok.cells x)=ATok.dv x:=rfl
@[simp] theorem ATok.ccl (x:ATok):(ATok.cells x).length=3:=rfl
@[simp] theorem ATok.c0 (x:ATok):(ATok.dv x).cells[0]? = some (I x.Kind):=rfl
@[simp] theorem ATok.c1 (x:ATok):(ATok.dv x).cells[1]? = some (I x.Line):=rfl
@[simp] theorem ATok.c2 (x:ATok):(ATok.dv x).cells[2]? = some (.s x.Text):=rfl
def qg3 (k:Int) (s:List UInt8) (e:Int):PV×Bool:=(.t [.d (.a [I k,I 0,.s s]),.d (I e)],false)
theorem qEh (T:Tab) (hC:HC T) (s:List UInt8) (hs:s.length≤2048):(∃v:Int,T.val 440 [.s s,I 10,I 64]=some (.t [.d (I v),.d .ni],false))∨(∃v:Int,T.val 440 [.s s,I 10,I 64]=some (.t [.d (I v),.d (.tok 0)],false)):=by
 rw[hC.par];simp only[qls];rw[if_pos (by refine⟨?_,?_,?_⟩<;>first|trivial|omega)]
 cases Lib.parseIntB 64 s with
 |ok v=>exact .inl ⟨v,rfl⟩
 |range=>exact .inr ⟨_,rfl⟩
 | _ => exact .inr ⟨_,rfl⟩
theorem qz8 (T:Tab) (hT:HT T) (hC:HC T) (s:List UInt8) (hs:s.length≤2048) : ∃k t e,T.val 433 [.s s]=some (qg3 k t e)∧(e=0→t=s):=by
 have e439:=qsG T hT s hs
 obtain⟨p,e441⟩:=qBZ T hT hC s hs;unfold two at e441;cases hi:qip s with
 |true =>
  rw[hi] at e439;rcases qEh T hC s hs with ⟨v,e⟩|⟨v,e⟩
  ·refine⟨2,s,0,?_,fun _=>rfl⟩
   rw[qae T (hT 433 qe9 rfl) rfl];simp[qe9,Fr.ofArgs,e439,e,↓qtK,qff,↓qaD,↓qaH,↓qaF,putAt,mkA,qal,qay,qaC,qfy,qg3]
  ·refine⟨0,[],6,?_,(fun h=>by cases h)⟩
   rw[qae T (hT 433 qe9 rfl) rfl];simp[qe9,Fr.ofArgs,e439,e,↓qtK,qff,↓qaD,↓qaH,mkA,qal,qg3]
 |false =>
  rw[hi] at e439;by_cases h0:p.2=0
  ·refine⟨3,s,0,?_,fun _=>rfl⟩
   rw[qae T (hT 433 qe9 rfl) rfl];simp[qe9,Fr.ofArgs,e439,e441,h0,↓qaD,↓qaH,↓qaF,putAt,mkA,qal,qay,qaC,qfy,qg3]
  ·have g0:=qai h0
   by_cases h1:p.2=1
   ·refine⟨0,[],6,?_,(fun h=>by cases h)⟩
    rw[qae T (hT 433 qe9 rfl) rfl];simp[qe9,Fr.ofArgs,e439,e441,h1,↓qaD,↓qaH,mkA,qal,qg3]
   ·have g1:=qai h1
    refine⟨0,[],2,?_,(fun h=>by cases h)⟩
    rw[qae T (hT 433 qe9 rfl) rfl];simp[qe9,Fr.ofArgs,e439,e441,g0,g1,↓qaD,↓qaH,mkA,qal,qg3]
end Go.Sim
end
section
namespace Go.Sim
set_option maxRecDepth 10000
set_option maxHeartbeats 4000000
structure HWd (T:Tab):Prop where
 words : ∃(ws:List (List UInt8)) (t o:Bool),T.val 438 []=some (.d (.l K0 (ws.map DV.s) t),o)∧ws.length≤1000
 marks : ∃(ms:List (List UInt8)) (t o:Bool),T.val 435 []=some (.d (.l K0 (ms.map DV.s) t),o)∧ms.length≤1000∧∀m∈ms,m≠[]
theorem qCH (T:Tab) (hT:HT T) (ws:List (List UInt8)) (t:Bool) (s:List UInt8) (hn:ws.length≤1000) : ∃n:Int,T.val 446 [.l K0 (ws.map DV.s) t,.s s]=some (.d (I n),false):=by
 apply qnc
 rw[qae T (hT 446 qjK rfl) rfl];simp[qjK,Fr.ofArgs];refine qjp (fun i:Nat=>⟨[(8,.d (I i)),(7,.d (I ws.length)),(1,.d (.s s)),(0,.d (.l K0 (ws.map DV.s) t))],[]⟩) (fun i=>i≤ws.length) (fun i=>ws.length-i) ?_ 0 (Nat.zero_le _) (by simp[gc,Fr.keep,qad,qac,qab,PV.refs,gcH,PV.ren,Obj.ren,Heap.obj,Fr.ren,gh])
 rintro B-i hi hx;by_cases hlt:i<ws.length
 ·have h1:(i:Int)<ws.length:=by omega
  have h3:=wr1 (i:=i) (by omega)
  by_cases hs:s=ws[i]
  ·simp[qna,h1,hlt,←hs];exact qbM (show IsI _ from⟨_,rfl⟩)
  ·have g:=qhk hs
   have hx':=hx (i+1) (by omega) (by omega)
   simp[qna,h1,hlt,h3,g];exact hx' _ _ (by simp[gc,Fr.keep,qad,qac,qab,PV.refs,gcH,PV.ren,Obj.ren,Heap.obj,Fr.ren,gh])
 ·have:i=ws.length:=by omega
  subst this;have h1 : ¬((ws.length:Int)<ws.length):=by omega
  simp[qna];exact qbM (show IsI _ from⟨_,rfl⟩)
theorem qAV (T:Tab) (hT:HT T) (hW:HWd T) (s:List UInt8) : ∃b:Bool,T.val 431 [.s s]=some (.d (.b b),false):=by
 obtain⟨ws,t,o,e438,hn⟩:=hW.words;obtain⟨n,e446⟩:=qCH T hT ws t s hn;have e437:T.val 437 [.l K0 (ws.map DV.s) t,.s s]=some (.d (.b (decide (0≤n))),false):=by
  rw[qae T (hT 437 qkq rfl) rfl];simp[qkq,Fr.ofArgs,e446]
 refine⟨decide (0≤n),?_⟩;generalize ws.map DV.s=w at *
 rw[qae T (hT 431 qlh rfl) rfl];simp[qlh,Fr.ofArgs,e438,e437]
theorem qEQ (T:Tab) (hT:HT T) (s m:List UInt8) : ∃b:Bool,T.val 291 [.s s,.s m]=some (.d (.b b),false)∧(b=true→m.length≤s.length):=by
 rw[qae T (hT 291 qiY rfl) rfl];by_cases h:m.length≤s.length
 ·have g:(m.length:Int)≤s.length:=by omega
  refine⟨(s.take m.length==m),?_,fun _=>h⟩
  simp[qiY,Fr.ofArgs,g]
 ·have g : ¬((m.length:Int)≤s.length):=by omega
  refine⟨false,?_,(fun h=>by cases h)⟩
  simp[qiY,Fr.ofArgs,g]
theorem qAH (T:Tab) (hT:HT T) (s m:List UInt8) : ∃b:Bool,T.val 207 [.s s,.s m]=some (.d (.b b),false)∧(b=true→m.length≤s.length):=by
 obtain⟨b,e,h⟩:=qEQ T hT s m;refine⟨b,?_,h⟩;rw[qae T (hT 207 qjS rfl) rfl];simp[qjS,Fr.ofArgs,e]
def qhM (s:List UInt8) (r:PV×Bool):Prop:=∃k t e,r=qg3 k t e∧(e=0→t≠[]∧t.length≤s.length)
theorem qDG (k:K) (v:DV):Cl [some (.box k (.d v))]:=fun r h=>by simp[qab,qaf,Obj.refs,PV.refs] at h
theorem qxj (T:Tab) (hT:HT T) (hC:HC T) (hW:HWd T) (s:List UInt8) (h0:s≠[]) (hs:s.length≤2048):Ans (qhM s) (T.val 424 [.s s]):=by
 have hm:=mxl
 obtain⟨c,r,rfl⟩ : ∃c r,s=c::r:=by
  cases s with
  |nil=>exact absurd rfl h0
  |cons c r=>exact⟨c,r,rfl⟩
 have w32:IntKind.i32.wrap ((c.toNat:Nat):Int)=cN c:=by
  rw[IntKind.wrap_i32];have:=c.toNat_lt;unfold cN;omega
 have e429:=qvQ T hT (cN c)
 have e432:=qnr T hT (cN c)
 have z:Cl [some (.box (K1 3) (.d (.a [I 0,I 0,.s []])))]:=qDG _ _
 cases hl:qjT (cN c) with
 |true =>
  rw[hl] at e429;have e425:=qkP T hT 430 qgq (fun n=>qsL T hT n) (c::r) (by rw[hm];omega) _ z
  have hne:(c::r).takeWhile (fun c=>qgq (cN c))≠[]:=by
   rw[List.takeWhile_cons,if_pos (by unfold qgq;rw[hl];rfl)];simp
  have hle:=qmI (fun c=>qgq (cN c)) (c::r)
  generalize (c::r).takeWhile (fun c=>qgq (cN c))=w at *
  obtain⟨b,e431⟩:=qAV T hT hW w;cases b with
  |true =>
   rw[qae T (hT 424 qfv rfl) rfl];simp[qfv,Fr.ofArgs,↓qbY,↓qcl,↓qaX,↓qbQ,w32,e429,e425,e431,↓qaD,↓qaH,↓qaF,putAt,mkA,qal,qay,qaC,qfy];exact qbM (show qhM _ _ from⟨5,w,0,rfl,fun _=>⟨hne,hle⟩⟩)
  |false =>
   by_cases hw:16<w.length
   ·have g:(16:Int)<w.length:=by omega
    rw[qae T (hT 424 qfv rfl) rfl];simp[qfv,Fr.ofArgs,↓qbY,↓qcl,↓qaX,↓qbQ,w32,e429,e425,e431,g,↓qaD,↓qaH,mkA,qal];exact qbM (show qhM _ _ from⟨0,[],4,rfl,(fun h=>by cases h)⟩)
   ·have g : ¬((16:Int)<w.length):=by omega
    rw[qae T (hT 424 qfv rfl) rfl];simp[qfv,Fr.ofArgs,↓qbY,↓qcl,↓qaX,↓qbQ,w32,e429,e425,e431,g,↓qaD,↓qaH,↓qaF,putAt,mkA,qal,qay,qaC,qfy];exact qbM (show qhM _ _ from⟨1,w,0,rfl,fun _=>⟨hne,hle⟩⟩)
 |false =>
  rw[hl] at e429;cases hd:qb7 (cN c) with
  |true =>
   rw[hd] at e432;have e425:=qkP T hT 434 qhT (fun n=>qzc T hT n) (c::r) (by rw[hm];omega) _ z
   have hne:(c::r).takeWhile (fun c=>qhT (cN c))≠[]:=by
    rw[List.takeWhile_cons,if_pos (by unfold qhT qgq;rw[hl,hd];rfl)];simp
   have hle:=qmI (fun c=>qhT (cN c)) (c::r)
   generalize (c::r).takeWhile (fun c=>qhT (cN c))=w at *
   obtain⟨k,t,e,e433,ht⟩:=qz8 T hT hC w (by omega)
   unfold qg3 at e433;rw[qae T (hT 424 qfv rfl) rfl];simp[qfv,Fr.ofArgs,↓qbY,↓qcl,↓qaX,↓qbQ,w32,e429,e432,e425,e433];exact qbM (show qhM _ _ from⟨k,t,e,rfl,fun h=>by rw[ht h];exact⟨hne,hle⟩⟩)
  |false =>
   rw[hd] at e432;obtain⟨ms,t,o,e435,hn,hms⟩:=hW.marks;rw[qae T (hT 424 qfv rfl) rfl];simp[qfv,Fr.ofArgs,↓qbY,↓qcl,↓qaX,↓qbQ,w32,e429,e432,e435];refine qjp (fun i:Nat=>⟨[(36,.d (I i)),(35,.d (I ms.length)),(34,.d (.l K0 (ms.map DV.s) t)),(2,.p 0 0 0),(0,.d (.s (c::r)))],[some (.box (K1 3) (.d (.a [I 0,I 0,.s []])))]⟩) (fun i=>i≤ms.length) (fun i=>ms.length-i) ?_ 0 (Nat.zero_le _) (by simp[gc,Fr.keep,qad,qac,qab,PV.refs,qag,gcH,qaf,Obj.refs,PV.ren,Obj.ren,Heap.obj,Fr.ren,gh,zzd])
   rintro B-i hi hx;by_cases hlt:i<ms.length
   ·have h1:(i:Int)<ms.length:=by omega
    have h3:=wr1 (i:=i) (by omega)
    obtain⟨b,e207,hb⟩:=qAH T hT (c::r) ms[i];cases b with
    |true =>
     simp[qmz,h1,hlt,e207,↓qaD,↓qaH,↓qaF,putAt,mkA,qal,qay,qaC,qfy];exact qbM (show qhM _ _ from⟨4,ms[i],0,rfl,fun _=>⟨hms _ (zzs hlt),hb rfl⟩⟩)
    |false =>
     have hx':=hx (i+1) (by omega) (by omega)
     simp[qmz,h1,hlt,h3,e207];exact hx' _ _ (by simp[gc,Fr.keep,qad,qac,qab,PV.refs,qag,gcH,qaf,Obj.refs,PV.ren,Obj.ren,Heap.obj,Fr.ren,gh,zzd])
   ·have:i=ms.length:=by omega
    subst this;have h1 : ¬((ms.length:Int)<ms.length):=by omega
    simp[qmz,↓qaD,↓qaH,mkA,qal];exact qbM (show qhM _ _ from⟨0,[],2,rfl,(fun h=>by cases h)⟩)
end Go.Sim
end
section
namespace Go.Sim
set_option maxRecDepth 10000
set_option maxHeartbeats 4000000
theorem qrE {R:Type} {a b c:DV} {q:PV→Option R}:bo (mkP (K1 3) [.d a,.d b,.d c]) (.h q)=q (.d (.a [a,b,c])):=rfl
def qjv (r:PV×Bool):Prop:=∃(l:List ATok) (t:Bool) (line e:Int),r=(.t [.d (.l (K1 3) (l.map ATok.dv) t),.d (I line),.d (I e)],false)
theorem qBp (T:Tab) (hT:HT T) (hC:HC T) (hW:HWd T) (s:List UInt8) (hs:s.length≤maxLen):Ans qjv (T.val 420 [.s s]):=by
 have hm:=mxl
 rw[qae T (hT 420 qiN rfl) rfl];by_cases hg:2048<s.length
 ·have g:(2048:Int)<s.length:=by omega
  simp[qiN,Fr.ofArgs,g];exact qbM (show qjv _ from⟨[],true,0,5,rfl⟩)
 have g : ¬((2048:Int)<s.length):=by omega
 simp[qiN,Fr.ofArgs,g];refine qjp (fun q:List UInt8×List ATok×Int=>⟨[(6,.d (I q.2.2)),(5,qav (K1 3) (q.2.1.map ATok.dv)),(0,.d (.s q.1))],qbN (K1 3) (q.2.1.map ATok.dv)⟩) (fun q=>q.1.length+q.2.1.length≤2048) (fun q=>q.1.length) ?_ (s,[],1) (by simp;omega) (by simp[gc,Fr.keep,qad,qac,qab,PV.refs,gcH,PV.ren,Obj.ren,Heap.obj,Fr.ren,gh,qav,qbN])
 rintro B-⟨u,l,line⟩ hi hx;simp only at hi hx⊢;have hx':=fun (s':List UInt8×List ATok×Int)=>hx s'
 clear hx
 obtain⟨n,hn,e422⟩:=qEo T hT u (by omega)
 have e423:T.val 423 [.s (u.take n),.s [10]]=some (.d (.i .i64 (qhN (u.take n) 10)),false):=by rw[hC.cnt];rfl
 have g1:(n:Int)≤u.length:=by omega
 generalize qhN (u.take n) 10=cnt at *
 obtain⟨v,hv⟩ : ∃v,u.drop n=v:=⟨_,rfl⟩;have hvl:v.length≤u.length:=by rw[←hv,List.length_drop];omega
 by_cases h0:v=[]
 ·subst h0;cases l with
  |nil =>
   simp[qin,e422,e423,g1,hv,qav,qbN];exact qbM (show qjv _ from⟨[],_,_,_,rfl⟩)
  |cons a l =>
   have ht:(l.map ATok.dv).take l.length=l.map ATok.dv:=List.take_of_length_le (by simp)
   simp[qin,e422,e423,g1,hv,qav,qbN,ht,qbe,pur,qbV,PV.scal,PV.scal1,DV.scal,DV.scal1];exact qbM (show qjv _ from⟨a::l,_,_,_,rfl⟩)
 have gv:=qhk h0
 obtain⟨rr,e424,k,t,e,hrr,hte⟩:=qxj T hT hC hW v h0 (by omega)
 rw[hrr] at e424;unfold qg3 at e424;by_cases he:e=0
 ·subst he;obtain⟨t0,tl⟩:=hte rfl;have t1:t.length≠0:=fun h=>t0 (List.length_eq_zero_iff.1 h)
  have g2:(t.length:Int)≤v.length:=by omega
  obtain⟨ln,hln⟩ : ∃ln,IntKind.i64.wrap (line+cnt)=ln:=⟨_,rfl⟩;have hx2:=hx' (v.drop t.length,l++[⟨k,ln,t⟩],ln) (by simp only[List.length_drop,zzp,zzn,List.length_nil];omega) (by simp only[List.length_drop];omega)
  clear hx'
  have ed:ATok.dv ⟨k,ln,t⟩ = .a [I k,I ln,.s t]:=rfl
  simp only[List.map_append,zzu,List.map_nil,ed] at hx2;cases l with
  |nil =>
   simp only[List.map_nil,List.nil_append,qav,qbN] at hx2⊢;simp[qin,e422,e423,g1,hv,gv,e424,hln,g2,qgI,qgS,qrE,putAt,qay,qaC,List.take_length];exact hx2 _ _ (by simp[gc,Fr.keep,qad,qac,qab,PV.refs,qag,gcH,qaf,Obj.refs,PV.ren,Obj.ren,Heap.obj,Fr.ren,gh,zzd])
  |cons a l =>
   simp only[zzu,List.cons_append,qav,qbN] at hx2⊢;simp only[zzn] at hi;have h5:(l.length+1+1)*32≤140737488355328:=by omega
   have ht:(l.map ATok.dv).take l.length=l.map ATok.dv:=List.take_of_length_le (by simp)
   simp[qin,e422,e423,g1,hv,gv,e424,hln,g2,h5,ht,qgI,qgS,qrE,putAt,qay,qaC,List.take_length];exact hx2 _ _ (by simp[gc,Fr.keep,qad,qac,qab,PV.refs,qag,gcH,qaf,Obj.refs,PV.ren,Obj.ren,Heap.obj,Fr.ren,gh,zzd])
 ·have ge:=qai he
  cases l with
  |nil =>
   simp[qin,e422,e423,g1,hv,gv,e424,ge,bne,qav,qbN];exact qbM (show qjv _ from⟨[],true,_,_,rfl⟩)
  |cons a l =>
   simp[qin,e422,e423,g1,hv,gv,e424,ge,bne,qav,qbN];exact qbM (show qjv _ from⟨[],true,_,_,rfl⟩)
theorem qEe (T:Tab) (hT:HT T) (hC:HC T) (hW:HWd T):HNm T:=by
 intro s hs;obtain⟨r,e420,l,t,line,e,hr⟩:=qBp T hT hC hW s hs;rw[hr] at e420;apply qp3
 rw[qae T (hT 415 qgO rfl) rfl];by_cases he:e=0
 ·subst he;cases l with
  |nil =>
   simp[qgO,Fr.ofArgs,e420];exact qbM (show IsB _ from⟨_,rfl⟩)
  |cons a l =>
   cases l with
   |nil =>
    by_cases hk:a.Kind=1
    ·simp[qgO,Fr.ofArgs,e420,hk];exact qbM (show IsB _ from⟨_,rfl⟩)
    ·have gk:=qai hk
     simp[qgO,Fr.ofArgs,e420,gk];exact qbM (show IsB _ from⟨_,rfl⟩)
   |cons b l =>
    have g1:((l.length:Int)+1+1==1)=false:=qai (by omega)
    have g2 : ¬((l.length:Int)+1+1=1):=by omega
    simp[qgO,Fr.ofArgs,e420,g1];exact qbM (show IsB _ from⟨_,rfl⟩)
 ·have ge:=qai he
  simp[qgO,Fr.ofArgs,e420,ge];exact qbM (show IsB _ from⟨_,rfl⟩)
end Go.Sim
end
section
namespace Go.Sim
set_option maxRecDepth 10000
set_option maxHeartbeats 4000000
def qcw (s:List UInt8):List AVar→Int×Int
 | []=>(0,4)
 |v::r=>if v.Name=s then (if qcT v.Typ=true then (v.Typ,0) else (0,3)) else qcw s r
theorem qvt (s:List UInt8) : ∀(a b:List AVar),(∀v∈a,v.Name≠s)→qcw s (a++b)=qcw s b
 | [],_,_=>rfl
 |v::a,b,h=>by
  rw[List.cons_append,qcw,if_neg (h v (by simp))]
  exact qvt s a b fun w hw=>h w (by simp[hw])
theorem qqm (s:List UInt8) : ∀(a:List AVar),(∀v∈a,v.Name≠s)→qcw s a=(0,4)
 | [],_=>rfl
 |v::a,h=>by
  rw[qcw,if_neg (h v (by simp))]
  exact qqm s a fun w hw=>h w (by simp[hw])
theorem qpk {α:Type} (l:List α) (i:Nat) (h:i<l.length):l=l.take i++l[i]::l.drop (i+1):=by
 rw[List.getElem_cons_drop,List.take_append_drop]
theorem qwd (T:Tab) (hT:HT T) (s:List UInt8) (vs:List AVar) (t:Bool) (hn:vs.length≤1000) {k:KC (PV×Bool)} {r:Option (PV×Bool)} {fr:Fr} {H:Heap}
  (he:qcw s vs=(0,4)→k (.exit 0) [(11,.d (.b false)),(10,.d (I vs.length)),(9,.d (I vs.length)),(8,.d (.l (K1 2) (vs.map AVar.dv) t)),(0,.d (.s s))] []=r)
  (hr : ∀fr J,fr.get 4 = .d (I (qcw s vs).1)→fr.get 5 = .d (I (qcw s vs).2)→qau fr=[]→k .ret fr J=r)
  (h0:gc [0,8,9,10] 0 ⟨fr,H⟩=⟨[(10,.d (I 0)),(9,.d (I vs.length)),(8,.d (.l (K1 2) (vs.map AVar.dv) t)),(0,.d (.s s))],[]⟩) :
  kC T.env 0 fr H (.h (.loop [0,8,9,10] qjF,k))=r:=by
 refine qfT (fun i:Nat=>⟨[(10,.d (I i)),(9,.d (I vs.length)),(8,.d (.l (K1 2) (vs.map AVar.dv) t)),(0,.d (.s s))],[]⟩) (fun i=>i≤vs.length∧∀v∈vs.take i,v.Name≠s) (fun i=>vs.length-i) ?_ 0 ⟨Nat.zero_le _,by simp⟩ h0
 rintro B-i ⟨hi,ha⟩ hx;by_cases hlt:i<vs.length
 ·have h1:(i:Int)<vs.length:=by omega
  have h3:=wr1 (i:=i) (by omega)
  have e:=qs4 T hT vs[i].Typ
  by_cases hs:vs[i].Name=s
  ·have hv:qcw s vs=if qcT vs[i].Typ=true then (vs[i].Typ,0) else (0,3):=by
    conv=>lhs;rw[qpk vs i hlt,qvt s _ _ ha,qcw,if_pos hs]
   rw[hv] at hr;cases hk:qcT vs[i].Typ with
   |true =>
    rw[hk] at e hr;simp only[if_true] at hr;simp[qjF,h1,hlt,hs,e];exact hr _ _ (by simp[Fr.get]) (by simp[Fr.get]) (by simp[qau,gh])
   |false =>
    rw[hk] at e hr;simp only[zzg,if_false] at hr;simp[qjF,h1,hlt,hs,e];exact hr _ _ (by simp[Fr.get]) (by simp[Fr.get]) (by simp[qau,gh])
  ·have g:=qhk hs
   have hx':=hx (i+1) ⟨by omega,by
    rw[List.take_succ_eq_append_getElem hlt];intro v hv;rcases List.mem_append.1 hv with hv|hv
    ·exact ha v hv
    ·rw[List.mem_singleton.1 hv];exact hs⟩ (by omega)
   simp[qjF,h1,hlt,g,h3];exact hx' _ _ (by simp[gc,Fr.keep,qad,qac,qab,PV.refs,gcH,PV.ren,Obj.ren,Heap.obj,Fr.ren,gh])
 ·have:i=vs.length:=by omega
  subst this;rw[List.take_length] at ha;have he':=he (qqm s vs ha)
  have h1 : ¬((vs.length:Int)<vs.length):=by omega
  simp[qjF];exact he'
theorem qB6 (T:Tab) (hT:HT T) (s:List UInt8) (vs:List AVar) (t:Bool) (hn:vs.length≤1000):T.val 410 [.s s,.l (K1 2) (vs.map AVar.dv) t]=some (two (qcw s vs)):=by
 have lp:=fun k r fr H => @qwd T hT s vs t hn k r fr H
 rw[qae T (hT 410 qkV rfl) rfl];unfold two;simp[qkV,Fr.ofArgs];refine lp _ _ _ _ (fun h => ?_) (fun fr J h4 h5 hg => ?_) (by simp[gc,Fr.keep,qad,qac,qab,PV.refs,gcH,PV.ren,Obj.ren,Heap.obj,Fr.ren,gh])
 ·rw[h];simp
 ·simp[h4,h5,hg]
def qb0 {α:Type} (g:α→Int):List α→Int
 | []=>0
 |a::r=>if g a=0 then qb0 g r else g a
theorem qnZ {α:Type} (g:α→Int) : ∀(a b:List α),(∀v∈a,g v=0)→qb0 g (a++b)=qb0 g b
 | [],_,_=>rfl
 |v::a,b,h=>by
  rw[List.cons_append,qb0,if_pos (h v (by simp))]
  exact qnZ g a b fun w hw=>h w (by simp[hw])
theorem qiW {α:Type} (g:α→Int) : ∀(a:List α),qb0 g a=0↔∀v∈a,g v=0
 | []=>by simp[qb0]
 |v::a=>by
  rw[qb0];by_cases h:g v=0
  ·rw[if_pos h,qiW g a];simp[h]
  ·rw[if_neg h];simp[h]
theorem qDF (T:Tab) (l:List AExpr) (t:Bool) (g:AExpr→Int×Int) (V w:DV) (hg : ∀a∈l,T.val 400 [a.dv,V]=some (two (g a))) (hn:l.length*56≤140737488355328) {k:KC (PV×Bool)} {r:Option (PV×Bool)} {fr:Fr} {H:Heap}
  (he:qb0 (fun a=>(g a).2) l=0→k (.exit 1) [(33,.d (.b false)),(32,.d (I l.length)),(31,.d (I l.length)),(30,.d (.l (K1 4) (l.map AExpr.dv) t)),(6,qav K0 (l.map fun a=>I (g a).1)),(2,pB 0 (l.map fun a=>I (g a).1)),(1,.d V)] (qb3 K0 [some (.box (K1 4) (.d w))] (l.map fun a=>I (g a).1))=r)
  (hr:qb0 (fun a=>(g a).2) l≠0→∀fr J,fr.get 4 = .d (I 0)→fr.get 5 = .d (I (qb0 (fun a=>(g a).2) l))→qau fr=[]→k .ret fr J=r)
  (h0:gc [1,2,6,30,31,32] 0 ⟨fr,H⟩=⟨[(32,.d (I 0)),(31,.d (I l.length)),(30,.d (.l (K1 4) (l.map AExpr.dv) t)),(6,.d (.l K0 [] true)),(2,.p 0 0 0),(1,.d V)],[some (.box (K1 4) (.d w))]⟩) :
  kC T.env 0 fr H (.h (.loop [1,2,6,30,31,32] qh3,k))=r:=by
 refine qfT (fun i:Nat=>⟨[(32,.d (I i)),(31,.d (I l.length)),(30,.d (.l (K1 4) (l.map AExpr.dv) t)),(6,qav K0 ((l.take i).map fun a=>I (g a).1)),(2,pB 0 ((l.take i).map fun a=>I (g a).1)),(1,.d V)],qb3 K0 [some (.box (K1 4) (.d w))] ((l.take i).map fun a=>I (g a).1)⟩) (fun i=>i≤l.length∧∀v∈l.take i,(g v).2=0) (fun i=>l.length-i) ?_ 0 ⟨Nat.zero_le _,by simp⟩ (by rw[h0];rfl)
 rintro B-i ⟨hi,ha⟩ hx;by_cases hlt:i<l.length
 ·have h1:(i:Int)<l.length:=by omega
  have h3:=wr1 (i:=i) (by omega)
  have e:=hg l[i] (zzs hlt)
  unfold two at e;have hl:((l.take i).map fun a=>I (g a).1).length≤i:=by simp;omega
  by_cases hs:(g l[i]).2=0
  ·have hx':=hx (i+1) ⟨by omega,by
    rw[List.take_succ_eq_append_getElem hlt];intro v hv;rcases List.mem_append.1 hv with hv|hv
    ·exact ha v hv
    ·rw[List.mem_singleton.1 hv];exact hs⟩ (by omega)
   rw[qoL (fun a:AExpr=>I (g a).1) l i hlt] at hx'
   rw[hs] at e;generalize (l.take i).map (fun a=>I (g a).1)=o at *
   cases o with
   |nil =>
    simp only[qav,qb3,pB,List.nil_append] at hx'⊢;simp[qh3,h1,hlt,h3,e];exact hx' _ _ (by simp[gc,Fr.keep,qad,qac,qab,PV.refs,qag,gcH,qaf,Obj.refs,PV.ren,Obj.ren,Heap.obj,Fr.ren,gh,zzd])
   |cons x o =>
    simp only[qav,qb3,pB,List.cons_append] at hx'⊢;simp only[zzn] at hl;have h5:(o.length+1+1)*8≤140737488355328:=by omega
    have ht:o.take o.length=o:=List.take_of_length_le (by simp)
    simp[qh3,h1,hlt,h3,h5,ht,e];exact hx' _ _ (by simp[gc,Fr.keep,qad,qac,qab,PV.refs,qag,gcH,qaf,Obj.refs,PV.ren,Obj.ren,Heap.obj,Fr.ren,gh,zzd])
  ·have hf:qb0 (fun a=>(g a).2) l=(g l[i]).2:=by
    conv=>lhs;rw[qpk l i hlt,qnZ _ _ _ ha,qb0,if_neg hs]
   rw[hf] at hr;have hr':=hr hs
   have gs:=qai hs
   generalize (l.take i).map (fun a=>I (g a).1)=o at *
   cases o with
   |nil =>
    simp only[qav,qb3,pB] at⊢;simp[qh3,h1,hlt,e,gs,bne];exact hr' _ _ (by simp[Fr.get]) (by simp[Fr.get]) (by simp[qau,gh])
   |cons x o =>
    simp only[qav,qb3,pB] at⊢;simp[qh3,h1,hlt,e,gs,bne];exact hr' _ _ (by simp[Fr.get]) (by simp[Fr.get]) (by simp[qau,gh])
 ·have:i=l.length:=by omega
  subst this;rw[List.take_length] at ha⊢;have he':=he ((qiW _ _).2 ha)
  have h1 : ¬((l.length:Int)<l.length):=by omega
  simp[qh3];exact he'
def qo2 (op:Int) (l:List AExpr) (g:AExpr→Int×Int):Int×Int :=
 if qb0 (fun a=>(g a).2) l=0 then (if (qcb op (l.map fun a=>(g a).1)).2=true then ((qcb op (l.map fun a=>(g a).1)).1,0) else (0,3)) else (0,qb0 (fun a=>(g a).2) l)
theorem qpW (T:Tab) (hT:HT T) (x:AExpr) (vs:List AVar) (tv:Bool) (hv:vs.length≤1000) (h:x.Op=1∨x.Op=2∨x.Op=3∨x.Op=4) :
  T.val 400 [x.dv,.l (K1 2) (vs.map AVar.dv) tv]=some (two (if x.Op=4 then qcw x.S vs else (x.Op,0))):=by
 have e:=qB6 T hT x.S vs tv hv
 unfold two at *
 rw[qae T (hT 400 qgr rfl) rfl];rcases h with h|h|h|h
 ·rw[h,if_neg (by decide)]
  simp[qgr,Fr.ofArgs,h]
 ·rw[h,if_neg (by decide)]
  simp[qgr,Fr.ofArgs,h]
 ·rw[h,if_neg (by decide)]
  simp[qgr,Fr.ofArgs,h]
 ·rw[h,if_pos rfl];simp[qgr,Fr.ofArgs,h,e]
theorem qtn (T:Tab) (hT:HT T) (hA:HA T) (x:AExpr) (l:List AExpr) (h2:x.Args.l=l.map AExpr.dv) (hn:l.length*56≤140737488355328) (V:DV) (g:AExpr→Int×Int) (hg : ∀a∈l,T.val 400 [a.dv,V]=some (two (g a))) (n1:x.Op≠1) (n2:x.Op≠2) (n3:x.Op≠3) (n4:x.Op≠4) :
  T.val 400 [x.dv,V]=some (two (qo2 x.Op l g)):=by
 have lp:=fun w k r fr H => @qDF T l x.Args.t g V w hg hn k r fr H
 have hm:=mxl
 have e411:=fun b=>ql7 T hT hA x.Op (l.map fun a=>(g a).1) b (by rw[zzo,hm];omega)
 simp only[List.map_map] at e411;have hmm:((fun n=>I n)∘fun a:AExpr=>(g a).1)=fun a:AExpr=>I (g a).1:=rfl
 rw[hmm] at e411;have g1:=qai n1
 have g2:=qai n2
 have g3:=qai n3
 have g4:=qai n4
 unfold qo2;generalize qcb x.Op (l.map fun a=>(g a).1)=p at *
 obtain⟨w,ok⟩:=p;unfold qbc at e411;simp only at e411⊢;obtain⟨o,m,s,a⟩:=x;obtain⟨a,t⟩:=a;simp only at h2 lp e411 g1 g2 g3 g4 n1 n2 n3 n4⊢;subst h2;rw[qae T (hT 400 qgr rfl) rfl];unfold two;simp[qgr,Fr.ofArgs,g1,g2,g3,g4];refine lp (AExpr.dv ⟨o,m,s,⟨l.map AExpr.dv,t⟩⟩) _ _ _ _ (fun h => ?_) (fun h fr J h4 h5 hg' => ?_) (by simp[gc,Fr.keep,qad,qac,qab,PV.refs,qag,gcH,qaf,Obj.refs,PV.ren,Obj.ren,Heap.obj,Fr.ren,gh,zzd])
 ·rw[if_pos h];cases ho:l.map (fun a=>I (g a).1) with
  |nil =>
   have ef:=e411 true
   rw[ho] at ef;cases ok with
   |false=>simp[qav,qb3,pB,ef]
   |true=>simp[qav,qb3,pB,ef]
  |cons y o' =>
   have ef:=e411 false
   rw[ho] at ef;have ht:o'.take o'.length=o':=List.take_of_length_le (by simp)
   cases ok with
   |false=>simp[qav,qb3,pB,ht,qbe,pur,qbV,PV.scal,PV.scal1,DV.scal,DV.scal1,ef]
   |true=>simp[qav,qb3,pB,ht,qbe,pur,qbV,PV.scal,PV.scal1,DV.scal,DV.scal1,ef]
 ·rw[if_neg h];simp[h4,h5,hg']
end Go.Sim
end
section
namespace Go.Sim
set_option maxRecDepth 10000
set_option maxHeartbeats 4000000
theorem qlk (x:Int) : -9223372036854775808≤(qb4 x).1∧(qb4 x).1<9223372036854775808:=by unfold qb4;split<;>simp<;>omega
theorem qko (x:Int) : -9223372036854775808≤IntKind.i64.wrap x∧IntKind.i64.wrap x<9223372036854775808:=by rw[wI];omega
theorem qBn (a b:AValue) : -9223372036854775808≤(qib a b).1∧(qib a b).1<9223372036854775808:=by
 unfold qib;split
 ·split
  ·decide
  ·exact qko _
 ·split
  ·decide
  ·split<;>exact qlk _
theorem qFH (op:Int) (a b:AValue) : -9223372036854775808≤(qju op a b).1∧(qju op a b).1<9223372036854775808:=by
 unfold qju qkM;split
 ·exact qlk _
 ·split
  ·exact qlk _
  ·split
   ·split<;>exact qlk _
   ·split
    ·decide
    ·exact qBn a b
theorem qx8 (op:Int) : ∀vs:List AValue,-9223372036854775808≤(clP op vs).1∧(clP op vs).1<9223372036854775808
 | []=>by simp[clP]
 | [_]=>qlk _
 | [a,b]=>qFH op a b
 | _::_::_::_=>by simp[clP]
theorem qhP {v:AValue} (h:okV v=true) (h5:v.Typ=5):v.N=0∨v.N=1:=by
 unfold okV at h;rw[h5] at h;simpa using h
theorem qEY (op a b:Int) (ha : -9223372036854775808≤a∧a<9223372036854775808) (hb : -9223372036854775808≤b∧b<9223372036854775808) : -9223372036854775808≤qgJ op a b∧qgJ op a b<9223372036854775808:=by
 have:=qko (a*b)
 unfold qgJ;repeat' split
 all_goals omega
theorem qE7 (op:Int) (vs:List AValue) (hi : ∀v∈vs,v.i) (hk : ∀v∈vs,okV v=true) (h:(qcb op (vs.map (·.Typ))).2=true) (ho:op<5∨9<op) :
  (-9223372036854775808≤chP op vs∧chP op vs<9223372036854775808)∧((qcb op (vs.map (·.Typ))).1=5→chP op vs=0∨chP op vs=1):=by
 unfold qcb at h⊢;by_cases ha:(vs.map (·.Typ)).all qcT=true
 ·rw[if_pos ha] at h⊢;match vs,hi,hk,h with
  | [],_,_,h=>cases h
  | [a],hi,hk,h =>
   simp only[zzu,List.map_nil,chP] at h⊢;refine⟨qko _,fun _ => ?_⟩
   have ho2:(qcS op a.Typ).2=true:=by
    by_cases c:(qcS op a.Typ).2=true
    ·exact c
    ·rw[if_neg c] at h;cases h
   have h16:op=16:=by have:=qt8 ho2;omega
   subst h16;have h5:a.Typ=5:=by simpa[qcS] using ho2
   rcases qhP (hk a (by simp)) h5 with e|e
   ·rw[e];exact .inr (by decide)
   ·rw[e];exact .inl (by decide)
  | [a,b],hi,hk,h =>
   simp only[zzu,List.map_nil,chP] at h⊢;have ia:=hi a (by simp)
   have ib:=hi b (by simp)
   unfold AValue.i at ia ib;refine⟨qEY op a.N b.N ia ib,fun h5 => ?_⟩
   have ho2:(qcF op a.Typ b.Typ).2=true:=by
    by_cases c:(qcF op a.Typ b.Typ).2=true
    ·exact c
    ·rw[if_neg c] at h;cases h
   rw[if_pos ho2] at h5;simp only at h5;unfold qcF at ho2 h5;by_cases h1:op=10∨op=11
   ·unfold qgJ;rcases h1 with h1|h1<;>subst h1<;>simp<;>omega
   rw[if_neg h1] at ho2 h5;by_cases h2:op=12∨op=13
   ·unfold qgJ;rcases h2 with h1|h1<;>subst h1<;>simp<;>omega
   rw[if_neg h2] at ho2 h5;by_cases h3:op=14∨op=15
   ·rw[if_pos h3] at ho2;have hb:a.Typ=b.Typ∧a.Typ=5:=by simpa using ho2
    have ka:=qhP (hk a (by simp)) hb.2
    have kb:=qhP (hk b (by simp)) (by rw[←hb.1];exact hb.2)
    unfold qgJ;rcases h3 with h1|h1<;>subst h1<;>rcases ka with ka|ka<;>rcases kb with kb|kb<;>rw[ka,kb]<;>decide
   rw[if_neg h3] at ho2 h5;by_cases h4:op=17∨op=18
   ·rw[if_pos h4] at ho2 h5;have hb:a.Typ=b.Typ∧a.Typ≠5:=by simpa using ho2
    exact absurd h5 hb.2
   rw[if_neg h4] at ho2 h5;have hv:arV op a.Typ b.Typ≠0:=by simpa using ho2
   have:=qrS hv
   omega
  | [a,b,c],hi,hk,h =>
   simp only[zzu,List.map_nil,chP] at h⊢;have ib:=hi b (by simp)
   have ic:=hi c (by simp)
   unfold AValue.i at ib ic;refine⟨by split<;>assumption,fun h5 => ?_⟩
   by_cases c':op=19∧a.Typ=5∧b.Typ=c.Typ
   ·rw[if_pos c'] at h5;simp only at h5;have kb:=qhP (hk b (by simp)) h5
    have kc:=qhP (hk c (by simp)) (by rw[←c'.2.2];exact h5)
    split<;>assumption
   ·rw[if_neg c'] at h;cases h
  | _::_::_::_::_,_,_,h=>cases h
 ·rw[if_neg ha] at h;cases h
theorem qCa (op:Int) (vs:List AValue) (hi : ∀v∈vs,v.i) (h:(qcb op (vs.map (·.Typ))).2=true) (h0:(qgm op vs).2=0) :
  (qgm op vs).1.Typ=(qcb op (vs.map (·.Typ))).1∧(qgm op vs).1.i∧((qcb op (vs.map (·.Typ))).1=5→(qgm op vs).1.N=0∨(qgm op vs).1.N=1):=by
 have hc:=qE7 op vs hi
 unfold qgm qjw at h0⊢;rw[if_neg (by rw[h];decide)] at h0⊢
 by_cases ha:vs.all okV=true
 ·have hk : ∀v∈vs,okV v=true:=List.all_eq_true.1 ha
  rw[if_neg (by rw[ha];decide)] at h0⊢
  by_cases ho:op<5∨9<op
  ·obtain⟨c1,c2⟩:=hc hk h ho;rw[if_pos ho];exact⟨rfl,c1,c2⟩
  ·rw[if_neg ho] at h0⊢;by_cases hf:(clP op vs).2=0
   ·rw[if_pos hf] at h0⊢;by_cases hv:okV ⟨(qcb op (vs.map (·.Typ))).1,(clP op vs).1⟩=true
    ·rw[if_pos hv];exact⟨rfl,qx8 op vs,fun h5=>qhP hv h5⟩
    ·rw[if_neg hv] at h0;cases h0
   ·rw[if_neg hf] at h0;exact absurd h0 hf
 ·rw[if_pos (by simpa using ha)] at h0;cases h0
def qf5 (s:List UInt8):List AVar→List AValue→AValue
 |v::r,w::q=>if v.Name=s then w else qf5 s r q
 | _,_=>⟨0,0⟩
theorem qvU (s:List UInt8) : ∀(vs:List AVar) (es:List AValue) (i:Nat) (h:i<vs.length) (h':i<es.length),(∀v∈vs.take i,v.Name≠s)→vs[i].Name=s→qf5 s vs es=es[i]
 |v::vs,e::es,0,_,_,_,hs=>by
  rw[qf5,if_pos (show v.Name=s from hs)];rfl
 |v::vs,e::es,i+1,h,h',ha,hs=>by
  rw[qf5,if_neg (ha v (by simp))]
  exact qvU s vs es i (by simpa using h) (by simpa using h') (fun w hw=>ha w (by simp[hw])) hs
theorem qzn (T:Tab) (x:AExpr) (vs:List AVar) (es:List AValue) (tv te:Bool) (hn:vs.length≤1000) (hl:vs.length=es.length) (hf:(qcw x.S vs).2=0) {k:KC (PV×Bool)} {r:Option (PV×Bool)} {fr:Fr} {H:Heap} (z:DV)
  (hr : ∀fr J,fr.get 6 = .p 0 0 0→fr.get 7 = .d (I 0)→qau fr=[]→k .ret fr (some (.box (K1 2) (.d (qf5 x.S vs es).dv))::J)=r)
  (h0:gc [1,2,3,6,36,37,38] 0 ⟨fr,H⟩=⟨[(38,.d (I 0)),(37,.d (I vs.length)),(36,.d (.l (K1 2) (vs.map AVar.dv) tv)),(6,.p 0 0 0),(3,.p 1 0 0),(2,.d (.l (K1 2) (es.map AValue.dv) te)),(1,.d (.l (K1 2) (vs.map AVar.dv) tv))],[some (.box (K1 2) (.d z)),some (.box (K1 4) (.d x.dv))]⟩) :
  kC T.env 0 fr H (.h (.loop [1,2,3,6,36,37,38] qlZ,k))=r:=by
 refine qfT (fun i:Nat=>⟨[(38,.d (I i)),(37,.d (I vs.length)),(36,.d (.l (K1 2) (vs.map AVar.dv) tv)),(6,.p 0 0 0),(3,.p 1 0 0),(2,.d (.l (K1 2) (es.map AValue.dv) te)),(1,.d (.l (K1 2) (vs.map AVar.dv) tv))],[some (.box (K1 2) (.d z)),some (.box (K1 4) (.d x.dv))]⟩) (fun i=>i≤vs.length∧∀v∈vs.take i,v.Name≠x.S) (fun i=>vs.length-i) ?_ 0 ⟨Nat.zero_le _,by simp⟩ h0
 rintro B-i ⟨hi,ha⟩ hx;by_cases hlt:i<vs.length
 ·have h1:(i:Int)<vs.length:=by omega
  have h1':(i:Int)<es.length:=by omega
  have hlt':i<es.length:=by omega
  have h3:=wr1 (i:=i) (by omega)
  by_cases hs:vs[i].Name=x.S
  ·rw[qvU x.S vs es i hlt hlt' ha hs] at hr;simp[qlZ,h1,h1',hlt,hlt',hs];exact hr _ _ (by simp[Fr.get]) (by simp[Fr.get]) (by simp[qau,gh])
  ·have g:=qhk hs
   have hx':=hx (i+1) ⟨by omega,by
    rw[List.take_succ_eq_append_getElem hlt];intro v hv;rcases List.mem_append.1 hv with hv|hv
    ·exact ha v hv
    ·rw[List.mem_singleton.1 hv];exact hs⟩ (by omega)
   simp[qlZ,h1,hlt,g,h3];exact hx' _ _ (by simp[gc,Fr.keep,qad,qac,qab,PV.refs,qag,gcH,qaf,Obj.refs,PV.ren,Obj.ren,Heap.obj,Fr.ren,gh,zzd])
 ·exfalso
  have:i=vs.length:=by omega
  subst this;rw[List.take_length] at ha;rw[qqm x.S vs ha] at hf;cases hf
theorem qwI (T:Tab) (x:AExpr) (l:List AExpr) (t:Bool) (g:AExpr→AValue×Int) (V E z:DV) (hg : ∀a∈l,T.val 947 [a.dv,V,E]=some (qbP (g a))) (hn:l.length*56≤140737488355328) {k:KC (PV×Bool)} {r:Option (PV×Bool)} {fr:Fr} {H:Heap}
  (he:qb0 (fun a=>(g a).2) l=0→k (.exit 3) [(85,.d (.b false)),(84,.d (I l.length)),(83,.d (I l.length)),(82,.d (.l (K1 4) (l.map AExpr.dv) t)),(12,qav (K1 2) (l.map fun a=>(g a).1.dv)),(6,pB 0 (l.map fun a=>(g a).1.dv)),(3,pB 1 (l.map fun a=>(g a).1.dv)),(2,.d E),(1,.d V)] (qb3 (K1 2) [some (.box (K1 2) (.d z)),some (.box (K1 4) (.d x.dv))] (l.map fun a=>(g a).1.dv))=r)
  (hr0:qb0 (fun a=>(g a).2) l≠0→∀fr J,fr.get 6 = .p 0 0 0→fr.get 7 = .d (I (qb0 (fun a=>(g a).2) l))→qau fr=[]→k .ret fr (some (.box (K1 2) (.d (.a [I 0,I 0])))::J)=r)
  (hr1:qb0 (fun a=>(g a).2) l≠0→∀fr s J,fr.get 6 = .p 1 0 0→fr.get 7 = .d (I (qb0 (fun a=>(g a).2) l))→qau fr=[]→k .ret fr (s::some (.box (K1 2) (.d (.a [I 0,I 0])))::J)=r)
  (h0:gc [1,2,3,6,12,82,83,84] 0 ⟨fr,H⟩=⟨[(84,.d (I 0)),(83,.d (I l.length)),(82,.d (.l (K1 4) (l.map AExpr.dv) t)),(12,.d (.l (K1 2) [] true)),(6,.p 0 0 0),(3,.p 1 0 0),(2,.d E),(1,.d V)],[some (.box (K1 2) (.d z)),some (.box (K1 4) (.d x.dv))]⟩) :
  kC T.env 0 fr H (.h (.loop [1,2,3,6,12,82,83,84] qia,k))=r:=by
 refine qfT (fun i:Nat=>⟨[(84,.d (I i)),(83,.d (I l.length)),(82,.d (.l (K1 4) (l.map AExpr.dv) t)),(12,qav (K1 2) ((l.take i).map fun a=>(g a).1.dv)),(6,pB 0 ((l.take i).map fun a=>(g a).1.dv)),(3,pB 1 ((l.take i).map fun a=>(g a).1.dv)),(2,.d E),(1,.d V)],qb3 (K1 2) [some (.box (K1 2) (.d z)),some (.box (K1 4) (.d x.dv))] ((l.take i).map fun a=>(g a).1.dv)⟩) (fun i=>i≤l.length∧∀v∈l.take i,(g v).2=0) (fun i=>l.length-i) ?_ 0 ⟨Nat.zero_le _,by simp⟩ (by rw[h0];rfl)
 rintro B-i ⟨hi,ha⟩ hx;by_cases hlt:i<l.length
 ·have h1:(i:Int)<l.length:=by omega
  have h3:=wr1 (i:=i) (by omega)
  have e:=hg l[i] (zzs hlt)
  unfold qbP at e;have hl:((l.take i).map fun a=>(g a).1.dv).length≤i:=by simp;omega
  by_cases hs:(g l[i]).2=0
  ·have hx':=hx (i+1) ⟨by omega,by
    rw[List.take_succ_eq_append_getElem hlt];intro v hv;rcases List.mem_append.1 hv with hv|hv
    ·exact ha v hv
    ·rw[List.mem_singleton.1 hv];exact hs⟩ (by omega)
   rw[qoL (fun a:AExpr=>(g a).1.dv) l i hlt] at hx'
   rw[hs] at e;generalize (l.take i).map (fun a=>(g a).1.dv)=o at *
   cases o with
   |nil =>
    simp only[qav,qb3,pB,List.nil_append] at hx'⊢;simp[qia,h1,hlt,h3,e];exact hx' _ _ (by simp[gc,Fr.keep,qad,qac,qab,PV.refs,qag,gcH,qaf,Obj.refs,PV.ren,Obj.ren,Heap.obj,Fr.ren,gh,zzd])
   |cons y o =>
    simp only[qav,qb3,pB,List.cons_append] at hx'⊢;simp only[zzn] at hl;have h5:(o.length+1+1)*16≤140737488355328:=by omega
    have ht:o.take o.length=o:=List.take_of_length_le (by simp)
    simp[qia,h1,hlt,h3,h5,ht,e];exact hx' _ _ (by simp[gc,Fr.keep,qad,qac,qab,PV.refs,qag,gcH,qaf,Obj.refs,PV.ren,Obj.ren,Heap.obj,Fr.ren,gh,zzd])
  ·have hf:qb0 (fun a=>(g a).2) l=(g l[i]).2:=by
    conv=>lhs;rw[qpk l i hlt,qnZ _ _ _ ha,qb0,if_neg hs]
   rw[hf] at hr0 hr1;have gs:=qai hs
   generalize (l.take i).map (fun a=>(g a).1.dv)=o at *
   cases o with
   |nil =>
    have hr':=hr0 hs
    simp only[qav,qb3,pB] at⊢;simp[qia,h1,hlt,e,gs,bne,↓qaD,↓qaH,mkA,qal];exact hr' _ _ (by simp[Fr.get]) (by simp[Fr.get]) (by simp[qau,gh])
   |cons y o =>
    have hr':=hr1 hs
    simp only[qav,qb3,pB] at⊢;simp[qia,h1,hlt,e,gs,bne,↓qaD,↓qaH,mkA,qal];exact hr' _ _ _ (by simp[Fr.get]) (by simp[Fr.get]) (by simp[qau,gh])
 ·have:i=l.length:=by omega
  subst this;rw[List.take_length] at ha⊢;have he':=he ((qiW _ _).2 ha)
  have h1 : ¬((l.length:Int)<l.length):=by omega
  simp[qia];exact he'
end Go.Sim
end
section
namespace Go.Sim
set_option maxRecDepth 10000
set_option maxHeartbeats 4000000
theorem qwB {n:Int} (h:inK .i64 n) : -9223372036854775808≤n∧n≤9223372036854775807:=by
 unfold inK at h;simp[Lit.wf] at h;simp[IntKind.min,IntKind.signed,IntKind.bits] at h;omega
theorem qAW (v:AValue) (f:Int):PV.scal (.t [.d v.dv,.d (I f)])=true:=rfl
def qk1 (vs:List AVar) (es:List AValue):Prop:=vs.length=es.length∧∀i (h:i<vs.length) (h':i<es.length),es[i].Typ=vs[i].Typ∧es[i].i∧okV es[i]=true
theorem qAM {v:AVar} {w:AValue} {vs:List AVar} {es:List AValue} (h:qk1 (v::vs) (w::es)):qk1 vs es :=
 ⟨by simpa using h.1,fun i hi hi'=>h.2 (i+1) (Nat.succ_lt_succ hi) (Nat.succ_lt_succ hi')⟩
theorem qtZ (s:List UInt8) : ∀(vs:List AVar) (es:List AValue),qk1 vs es→(qcw s vs).2=0→(qf5 s vs es).Typ=(qcw s vs).1∧(qf5 s vs es).i∧((qcw s vs).1=5→(qf5 s vs es).N=0∨(qf5 s vs es).N=1)
 | [],_,_,h=>by cases h
 |v::vs,[],hE,_=>by have:=hE.1;simp at this
 |v::vs,w::es,hE,h=>by
  rw[qcw] at h⊢;rw[qf5];by_cases hs:v.Name=s
  ·rw[if_pos hs] at h⊢;rw[if_pos hs];obtain⟨e1,e2,e3⟩:=hE.2 0 (by simp) (by simp)
   simp only[List.getElem_cons_zero] at e1 e2 e3;by_cases hk:qcT v.Typ=true
   ·rw[if_pos hk];exact⟨e1,e2,fun h5=>qhP e3 (by rw[e1];exact h5)⟩
   ·rw[if_neg hk] at h;cases h
  ·rw[if_neg hs] at h⊢;rw[if_neg hs];exact qtZ s vs es (qAM hE) h
theorem qyU (T:Tab) (hT:HT T) (x:AExpr) (V E:DV) (h:x.Op=1∨x.Op=2∨x.Op=3):T.val 947 [x.dv,V,E]=some (qbP (⟨x.Op,x.N⟩,0)):=by
 rw[qae T (hT 947 qcR rfl) rfl];rcases h with h|h|h
 ·rw[h];simp[qcR,Fr.ofArgs,h,↓qaD,↓qaH,↓qaF,putAt,mkA,qay,qaC,qbP,AValue.dv]
 ·rw[h];simp[qcR,Fr.ofArgs,h,↓qaD,↓qaH,↓qaF,putAt,mkA,qay,qaC,qbP,AValue.dv]
 ·rw[h];simp[qcR,Fr.ofArgs,h,↓qaD,↓qaH,↓qaF,putAt,mkA,qay,qaC,qbP,AValue.dv]
theorem qFd (T:Tab) (hT:HT T) (x:AExpr) (vs:List AVar) (es:List AValue) (tv te:Bool) (hn:vs.length≤1000) (hl:vs.length=es.length) (h:x.Op=4) (hf:(qcw x.S vs).2=0):T.val 947 [x.dv,.l (K1 2) (vs.map AVar.dv) tv,.l (K1 2) (es.map AValue.dv) te]=some (qbP (qf5 x.S vs es,0)):=by
 have lp:=fun k r fr H => @qzn T x vs es tv te hn hl hf k r fr H (.a [I 0,I 0])
 rw[qae T (hT 947 qcR rfl) rfl];simp[qcR,Fr.ofArgs,h];refine lp _ _ _ _ (fun fr J h6 h7 hg => ?_) (by simp[gc,Fr.keep,qad,qac,qab,PV.refs,qag,gcH,qaf,Obj.refs,PV.ren,Obj.ren,Heap.obj,Fr.ren,gh,zzd])
 simp[h6,h7,hg,qbP]
theorem qCI (T:Tab) (hT:HT T) (hA:HA T) (x:AExpr) (l:List AExpr) (h2:x.Args.l=l.map AExpr.dv) (hn:l.length*56≤140737488355328) (V E:DV) (g:AExpr→AValue×Int) (hg : ∀a∈l,T.val 947 [a.dv,V,E]=some (qbP (g a))) (hi : ∀a∈l,(g a).2=0→(g a).1.i) (n1:x.Op≠1) (n2:x.Op≠2) (n3:x.Op≠3) (n4:x.Op≠4) (n5:x.Op≠19) :
  T.val 947 [x.dv,V,E]=some (qbP (if qb0 (fun a=>(g a).2) l=0 then qgm x.Op (l.map fun a=>(g a).1) else (⟨0,0⟩,qb0 (fun a=>(g a).2) l))):=by
 have lp:=fun k r fr H => @qwI T x l x.Args.t g V E (.a [I 0,I 0]) hg hn k r fr H
 have hmm : ∀(l:List AExpr),(l.map fun a=>(g a).1).map AValue.dv=l.map fun a=>(g a).1.dv:=fun l=>by rw[List.map_map];rfl
 have e967:=fun b (h:qb0 (fun a=>(g a).2) l=0)=>qAK T hT hA x.Op (l.map fun a=>(g a).1) b (by rw[zzo];exact hn) (fun v hv=>by
  obtain⟨a,ha,rfl⟩:=List.mem_map.1 hv;exact hi a ha ((qiW _ _).1 h a ha))
 simp only[hmm] at e967;have g1:=qai n1
 have g2:=qai n2
 have g3:=qai n3
 have g4:=qai n4
 have g5:=qai n5
 generalize qgm x.Op (l.map fun a=>(g a).1)=p at *
 obtain⟨v,f⟩:=p;unfold qbP at e967⊢;simp only at e967;obtain⟨o,m,s,a⟩:=x;obtain⟨a,t⟩:=a;simp only at h2 lp e967 g1 g2 g3 g4 g5 n1 n2 n3 n4 n5⊢;subst h2;rw[qae T (hT 947 qcR rfl) rfl];simp[qcR,Fr.ofArgs,g1,g2,g3,g4,g5];refine lp _ _ _ _ (fun h => ?_) (fun h fr J h6 h7 hg' => ?_) (fun h fr z J h6 h7 hg' => ?_) (by simp[gc,Fr.keep,qad,qac,qab,PV.refs,qag,gcH,qaf,Obj.refs,PV.ren,Obj.ren,Heap.obj,Fr.ren,gh,zzd])
 ·rw[if_pos h];cases ho:l.map (fun a=>(g a).1.dv) with
  |nil =>
   have ef:=e967 true h
   rw[ho] at ef;simp[qav,qb3,pB,ef]
  |cons y o' =>
   have ef:=e967 false h
   rw[ho] at ef;have ht:o'.take o'.length=o':=List.take_of_length_le (by simp)
   simp[qav,qb3,pB,ht,qbe,pur,qbV,qAW,ef]
 ·rw[if_neg h];simp[h6,h7,hg',AValue.dv]
 ·rw[if_neg h];simp[h6,h7,hg',AValue.dv]
theorem qxI (T:Tab) (hT:HT T) (x c a b:AExpr) (h2:x.Args.l=[c.dv,a.dv,b.dv]) (V E:DV) (p q s:AValue×Int) (hc:T.val 947 [c.dv,V,E]=some (qbP p)) (ha:p.2=0→p.1.N=1→T.val 947 [a.dv,V,E]=some (qbP q)) (hb:p.2=0→p.1.N=0→T.val 947 [b.dv,V,E]=some (qbP s)) (h01:p.2=0→p.1.N=0∨p.1.N=1) (h:x.Op=19) :
  T.val 947 [x.dv,V,E]=some (qbP (if p.2=0 then (if p.1.N=1 then q else s) else (⟨0,0⟩,p.2))):=by
 obtain⟨o,m,w,l⟩:=x;obtain⟨l,t⟩:=l;simp only at h2 h;subst h2;subst h;obtain⟨v,f⟩:=p;unfold qbP at *
 simp only at hc ha hb h01⊢;have w1:IntKind.i64.wrap 1=1:=by decide
 have w2:IntKind.i64.wrap 2=2:=by decide
 rw[qae T (hT 947 qcR rfl) rfl];by_cases hf:f=0
 ·subst hf;rw[if_pos rfl];rcases h01 rfl with hn|hn
  ·have e:=hb rfl hn
   rw[if_neg (by omega)]
   simp[qcR,Fr.ofArgs,hc,hn,e,w2]
  ·have e:=ha rfl hn
   rw[if_pos hn];simp[qcR,Fr.ofArgs,hc,hn,e,w1]
 ·have gf:=qai hf
  rw[if_neg hf];simp[qcR,Fr.ofArgs,hc,gf,bne,↓qaD,↓qaH,mkA,qal,AValue.dv]
def TV (T:Tab) (V E:DV) (x:AExpr) (p:Int×Int):Prop :=
 T.val 400 [x.dv,V]=some (two p)∧(p.2=0→∃q:AValue×Int,T.val 947 [x.dv,V,E]=some (qbP q)∧(q.2=0→q.1.Typ=p.1∧q.1.i∧(p.1=5→q.1.N=0∨q.1.N=1)))
theorem qBC {ts:List Int} (h:(qcb 19 ts).2=true) : ∃b,ts=[5,b,b]∧(qcb 19 ts).1=b:=by
 unfold qcb at h⊢;by_cases ha:ts.all qcT=true
 ·rw[if_pos ha] at h⊢;match ts,h with
  | [],h=>cases h
  | [a],h=>simp[qcS] at h
  | [a,b],h =>
   have:(qcF 19 a b).2=true:=by
    by_cases c:(qcF 19 a b).2=true
    ·exact c
    ·simp only at h;rw[if_neg c] at h;cases h
   exact absurd rfl (qsZ this).2.2
  | [a,b,c],h =>
   have h':a=5∧b=c:=by
    by_cases c':a=5∧b=c
    ·exact c'
    ·exfalso;simp[c'] at h
   obtain⟨rfl,rfl⟩:=h';exact⟨b,rfl,by simp⟩
  | _::_::_::_::_,h=>cases h
 ·rw[if_neg ha] at h;cases h
theorem qAY {α:Type} {f:α→Int} {l:List α} {x y z:Int} (h:l.map f=[x,y,z]) : ∃a b c,l=[a,b,c]∧f a=x∧f b=y∧f c=z:=by
 cases l with
 |nil=>simp at h
 |cons a l =>
  cases l with
  |nil=>simp at h
  |cons b l =>
   cases l with
   |nil=>simp at h
   |cons c l =>
    cases l with
    |nil =>
     simp at h;exact⟨a,b,c,rfl,h.1,h.2.1,h.2.2⟩
    |cons d l=>simp at h
theorem qEO (T:Tab) (hT:HT T) (hA:HA T) (vs:List AVar) (es:List AValue) (tv te:Bool) (hv:vs.length≤1000) (hE:qk1 vs es) : ∀(n:Nat) (x:AExpr),SizeOf.sizeOf x.dv<n→x.ok→∃p,TV T (.l (K1 2) (vs.map AVar.dv) tv) (.l (K1 2) (es.map AValue.dv) te) x p:=by
 intro n;induction n with
 |zero=>intro x h;exact absurd h (zzm _)
 |succ n ih =>
  intro x hn hx;by_cases n4:x.Op=4
  ·have e:=qpW T hT x vs tv hv (.inr (.inr (.inr n4)))
   rw[if_pos n4] at e;refine⟨_,e,fun h0=>⟨_,qFd T hT x vs es tv te hv hE.1 n4 h0,fun _=>qtZ x.S vs es hE h0⟩⟩
  by_cases n123:x.Op=1∨x.Op=2∨x.Op=3
  ·have e:=qpW T hT x vs tv hv (by rcases n123 with h|h|h<;>first|exact .inl h|exact .inr (.inl h)|exact .inr (.inr (.inl h)))
   rw[if_neg n4] at e;refine⟨_,e,fun h0=>⟨_,qyU T hT x _ _ n123,fun _=>⟨rfl,?_,fun h5 => ?_⟩⟩⟩
   ·have:=qwB hx.2.1
    exact⟨this.1,by show x.N<_;omega⟩
   ·simp only at h5;omega
  have n1:x.Op≠1:=fun h=>n123 (.inl h)
  have n2:x.Op≠2:=fun h=>n123 (.inr (.inl h))
  have n3:x.Op≠3:=fun h=>n123 (.inr (.inr h))
  obtain⟨l,h2,h3,h4⟩:=qjG hx;obtain⟨g,hg⟩:=qji (P:=fun a p=>TV T (.l (K1 2) (vs.map AVar.dv) tv) (.l (K1 2) (es.map AValue.dv) te) a p) (fun a ha=>ih a (by have:=qky h2 ha;omega) (h3 a ha))
  have e400:=qtn T hT hA x l h2 h4 (.l (K1 2) (vs.map AVar.dv) tv) g (fun a ha=>(hg a ha).1) n1 n2 n3 n4
  refine⟨_,e400,fun h0 => ?_⟩
  unfold qo2 at h0⊢;by_cases hf:qb0 (fun a=>(g a).2) l=0
  ·rw[if_pos hf] at h0⊢;by_cases hr:(qcb x.Op (l.map fun a=>(g a).1)).2=true
   ·rw[if_pos hr];have hall:=(qiW _ _).1 hf
    haveI:Nonempty (AValue×Int):=⟨(⟨0,0⟩,0)⟩
    obtain⟨G,hG⟩:=qji (P:=fun (a:AExpr) (q:AValue×Int)=>T.val 947 [a.dv,.l (K1 2) (vs.map AVar.dv) tv,.l (K1 2) (es.map AValue.dv) te]=some (qbP q)∧(q.2=0→q.1.Typ=(g a).1∧q.1.i∧((g a).1=5→q.1.N=0∨q.1.N=1))) (fun a ha=>(hg a ha).2 (hall a ha))
    by_cases n5:x.Op=19
    ·rw[n5] at hr⊢;obtain⟨b,hb,hb1⟩:=qBC hr;rw[hb1];obtain⟨c,a,d,hl3,hc5,ha5,hd5⟩:=qAY hb;rw[hl3] at h2 hG;have Gc:=hG c (by simp)
     have Ga:=hG a (by simp)
     have Gd:=hG d (by simp)
     have e:=qxI T hT x c a d h2 _ _ (G c) (G a) (G d) Gc.1 (fun _ _=>Ga.1) (fun _ _=>Gd.1) (fun h=>(Gc.2 h).2.2 hc5) n5
     refine⟨_,e,?_⟩;by_cases f0:(G c).2=0
     ·rw[if_pos f0];by_cases c1:(G c).1.N=1
      ·rw[if_pos c1];intro h
       have:=Ga.2 h
       rw[ha5] at this;exact this
      ·rw[if_neg c1];intro h
       have:=Gd.2 h
       rw[hd5] at this;exact this
     ·rw[if_neg f0];intro h;exact absurd h f0
    ·have e:=qCI T hT hA x l h2 h4 _ _ G (fun a ha=>(hG a ha).1) (fun a ha h=>((hG a ha).2 h).2.1) n1 n2 n3 n4 n5
     refine⟨_,e,?_⟩;by_cases f0:qb0 (fun a=>(G a).2) l=0
     ·rw[if_pos f0];intro h;have hall2:=(qiW _ _).1 f0
      have ht:(l.map fun a=>(G a).1).map (·.Typ)=l.map fun a=>(g a).1:=by
       rw[List.map_map];apply List.map_congr_left
       intro a ha;exact ((hG a ha).2 (hall2 a ha)).1
      have:=qCa x.Op (l.map fun a=>(G a).1) (fun v hv=>by
       obtain⟨a,ha,rfl⟩:=List.mem_map.1 hv;exact ((hG a ha).2 (hall2 a ha)).2.1) (by rw[ht];exact hr) h
      rw[ht] at this;exact this
     ·rw[if_neg f0];intro h;exact absurd h f0
   ·rw[if_neg hr] at h0;cases h0
  ·rw[if_neg hf] at h0;exact absurd h0 hf
end Go.Sim
end
section
namespace Go.Sim
set_option maxRecDepth 10000
set_option maxHeartbeats 4000000
def evB:List AVar→List AValue→Bool
 | [],[]=>true
 |v::vs,e::es=>(decide (e.Typ=v.Typ)&&okV e)&&evB vs es
 | _,_=>false
theorem qsi : ∀(vs:List AVar) (es:List AValue),(∀e∈es,e.i)→evB vs es=true→qk1 vs es
 | [],[],_,_=>⟨rfl,fun i h=>absurd h (zzm _)⟩
 | [],_::_,_,h=>by cases h
 | _::_,[],_,h=>by cases h
 |v::vs,e::es,hi,h=>by
  simp only[evB,zzf,zzq] at h;have ih:=qsi vs es (fun w hw=>hi w (by simp[hw])) h.2
  refine⟨by simp[ih.1],fun i h1 h2 => ?_⟩
  cases i with
  |zero=>exact⟨h.1.1,hi e (by simp),h.1.2⟩
  |succ i=>exact ih.2 i (by simpa using h1) (by simpa using h2)
theorem qus : ∀(vs:List AVar) (es:List AValue),vs.length≠es.length→evB vs es=false
 | [],[],h=>absurd rfl h
 | [],_::_,_=>rfl
 | _::_,[],_=>rfl
 |v::vs,e::es,h=>by
  rw[evB,qus vs es (by simpa using h),Bool.and_false]
theorem qAD (T:Tab) (hT:HT T) (vs:List AVar) (es:List AValue) (tv te:Bool) (hn:vs.length≤1000) (hl:vs.length=es.length) {k:KC (PV×Bool)} {r:Option (PV×Bool)} {fr:Fr} {H:Heap}
  (he:evB vs es=true→k (.exit 0) [(15,.d (.b false)),(14,.d (I es.length)),(13,.d (I es.length)),(12,.d (.l (K1 2) (es.map AValue.dv) te)),(0,.d (.l (K1 2) (vs.map AVar.dv) tv))] []=r)
  (hr:evB vs es=false→∀fr J,fr.get 4 = .d (.b false)→qau fr=[]→k .ret fr J=r)
  (h0:gc [0,12,13,14] 0 ⟨fr,H⟩=⟨[(14,.d (I 0)),(13,.d (I es.length)),(12,.d (.l (K1 2) (es.map AValue.dv) te)),(0,.d (.l (K1 2) (vs.map AVar.dv) tv))],[]⟩) :
  kC T.env 0 fr H (.h (.loop [0,12,13,14] qjn,k))=r:=by
 refine qfT (fun i:Nat=>⟨[(14,.d (I i)),(13,.d (I es.length)),(12,.d (.l (K1 2) (es.map AValue.dv) te)),(0,.d (.l (K1 2) (vs.map AVar.dv) tv))],[]⟩) (fun i=>i≤es.length∧evB vs es=evB (vs.drop i) (es.drop i)) (fun i=>es.length-i) ?_ 0 ⟨Nat.zero_le _,by simp⟩ h0
 rintro B-i ⟨hi,ha⟩ hx;by_cases hlt:i<es.length
 ·have h1:(i:Int)<es.length:=by omega
  have h1':(i:Int)<vs.length:=by omega
  have hlt':i<vs.length:=by omega
  have h3:=wr1 (i:=i) (by omega)
  have e:=qoI T hT es[i]
  rw[List.drop_eq_getElem_cons hlt,List.drop_eq_getElem_cons hlt',evB] at ha;by_cases c:es[i].Typ=vs[i].Typ
  ·cases hk:okV es[i] with
   |true =>
    rw[hk,decide_eq_true c,Bool.true_and,Bool.true_and] at ha;rw[hk] at e;have hx':=hx (i+1) ⟨by omega,ha⟩ (by omega)
    simp[qjn,↓qa5,↓qa8,↓qaW,↓qbd,↓qaY,qaZ,↓qa1,↓qbh,↓qa2,↓qa3,↓qbE,↓qa7,↓qbf,↓qby,qaM,writeS,touchS,qam,qax,chg,qaK,qaB,qat,qaE,PV.refs,IOp.okD,Nat.testBit,h1,h1',hlt,hlt',c,e,bne,h3];exact hx' _ _ (by simp[gc,Fr.keep,qad,qac,qab,PV.refs,gcH,PV.ren,Obj.ren,Heap.obj,Fr.ren,gh])
   |false =>
    rw[hk,Bool.and_false,Bool.false_and] at ha;rw[hk] at e;have hr':=hr ha
    simp[qjn,↓qa5,↓qa8,↓qaW,↓qbd,↓qaY,qaZ,↓qa1,↓qbh,↓qa2,↓qa3,↓qbE,↓qa7,↓qbf,↓qby,qaM,writeS,touchS,qam,qax,chg,qaK,qaB,qat,qaE,PV.refs,IOp.okD,Nat.testBit,h1,h1',hlt,hlt',c,e,bne];exact hr' _ _ (by simp[Fr.get]) (by simp[qau,gh])
  ·rw[decide_eq_false c,Bool.false_and,Bool.false_and] at ha;have g:=qai c
   have hr':=hr ha
   simp[qjn,↓qa5,↓qa8,↓qaW,↓qbd,↓qaY,qaZ,↓qa1,↓qbh,↓qa2,↓qa3,↓qbE,↓qa7,↓qbf,↓qby,qaM,writeS,touchS,qam,qax,chg,qaK,qaB,qat,qaE,PV.refs,IOp.okD,Nat.testBit,h1,h1',hlt,hlt',g,bne];exact hr' _ _ (by simp[Fr.get]) (by simp[qau,gh])
 ·have:i=es.length:=by omega
  subst this;rw[List.drop_of_length_le (zzt _),List.drop_of_length_le (by omega)] at ha
  have he':=he ha
  have h1 : ¬((es.length:Int)<es.length):=by omega
  simp[qjn];exact he'
theorem qB7 (T:Tab) (hT:HT T) (vs:List AVar) (es:List AValue) (tv te:Bool) (hn:vs.length≤1000):T.val 946 [.l (K1 2) (vs.map AVar.dv) tv,.l (K1 2) (es.map AValue.dv) te]=some (.d (.b (evB vs es)),false):=by
 rw[qae T (hT 946 qjf rfl) rfl];by_cases hl:vs.length=es.length
 ·have lp:=fun k r fr H => @qAD T hT vs es tv te hn hl k r fr H
  have hli:((vs.length:Int)==(es.length:Int))=true:=by simp[hl]
  simp[qjf,Fr.ofArgs,hl,bne];refine lp _ _ _ _ (fun h => ?_) (fun h fr J h4 hg => ?_) (by simp[gc,Fr.keep,qad,qac,qab,PV.refs,gcH,PV.ren,Obj.ren,Heap.obj,Fr.ren,gh])
  ·rw[h];simp
  ·rw[h];simp[h4,hg]
 ·have hli:((vs.length:Int)==(es.length:Int))=false:=qai (by omega)
  have hli2 : ¬((vs.length:Int)=(es.length:Int)):=by omega
  rw[qus vs es hl];simp[qjf,Fr.ofArgs,hli,bne]
theorem qyT (T:Tab) (hT:HT T) (hA:HA T) (vs:List AVar) (tv:Bool) (hv:vs.length≤1000) : ∀(n:Nat) (x:AExpr),SizeOf.sizeOf x.dv<n→x.ok→∃p,T.val 400 [x.dv,.l (K1 2) (vs.map AVar.dv) tv]=some (two p):=by
 intro n;induction n with
 |zero=>intro x h;exact absurd h (zzm _)
 |succ n ih =>
  intro x hn hx;by_cases h:x.Op=1∨x.Op=2∨x.Op=3∨x.Op=4
  ·exact⟨_,qpW T hT x vs tv hv h⟩
  ·obtain⟨l,h2,h3,h4⟩:=qjG hx;obtain⟨g,hg⟩:=qji (P:=fun a p=>T.val 400 [a.dv,.l (K1 2) (vs.map AVar.dv) tv]=some (two p)) (fun a ha=>ih a (by have:=qky h2 ha;omega) (h3 a ha))
   exact⟨_,qtn T hT hA x l h2 h4 _ g hg (by omega) (by omega) (by omega) (by omega)⟩
theorem qrz (T:Tab) (hT:HT T) (hN:HNm T) (x:AExpr) (hx:x.ok) (V:DV) (p:Int×Int) (hp:T.val 400 [x.dv,V]=some (two p)) : ∃q,T.val 387 [x.dv,V]=some (two q)∧(q.2=0→q=p):=by
 obtain⟨n,e⟩:=qyw T hT hN x hx;by_cases h:n=0
 ·subst h;refine⟨p,?_,fun _=>rfl⟩
  unfold two at *
  rw[qae T (hT 387 qhO rfl) rfl];simp[qhO,Fr.ofArgs,e,hp]
 ·have g:=qai h
  refine⟨(0,n),?_,fun h0=>absurd h0 h⟩
  unfold two at *
  rw[qae T (hT 387 qhO rfl) rfl];simp[qhO,Fr.ofArgs,e,g,bne]
theorem qBA (T:Tab) (hT:HT T) (hA:HA T) (hN:HNm T) (vs:List AVar) (es:List AValue) (tv te:Bool) (hv:vs.length≤1000) (hi : ∀e∈es,e.i) (h945:T.val 945 [.l (K1 2) (vs.map AVar.dv) tv]=some (.d (I 0),false)) (x:AExpr) (hx:x.ok) :
  ∃q:AValue×Int,T.val 916 [x.dv,.l (K1 2) (vs.map AVar.dv) tv,.l (K1 2) (es.map AValue.dv) te]=some (qbP q):=by
 have e946:=qB7 T hT vs es tv te hv
 cases hb:evB vs es with
 |true =>
  rw[hb] at e946;obtain⟨p,h400,h947⟩:=qEO T hT hA vs es tv te hv (qsi vs es hi hb) _ x (Nat.lt_succ_self _) hx;obtain⟨q,h387,hq⟩:=qrz T hT hN x hx _ p h400;by_cases h0:q.2=0
  ·obtain⟨v,e947,-⟩:=h947 (by rw[←hq h0];exact h0)
   refine⟨v,?_⟩;obtain⟨q1,q2⟩:=q;simp only at h0;subst h0;unfold two at h387;unfold qbP at e947⊢;rw[qae T (hT 916 qf1 rfl) rfl];simp[qf1,Fr.ofArgs,h945,h387,e946,e947]
  ·refine⟨(⟨0,0⟩,q.2),?_⟩;have g:=qai h0
   unfold two at h387;unfold qbP;rw[qae T (hT 916 qf1 rfl) rfl];simp[qf1,Fr.ofArgs,h945,h387,g,bne,↓qaD,↓qaH,mkA,qal,AValue.dv]
 |false =>
  rw[hb] at e946;obtain⟨p,h400⟩:=qyT T hT hA vs tv hv _ x (Nat.lt_succ_self _) hx;obtain⟨q,h387,-⟩:=qrz T hT hN x hx _ p h400;by_cases h0:q.2=0
  ·refine⟨(⟨0,0⟩,1),?_⟩;obtain⟨q1,q2⟩:=q;simp only at h0;subst h0;unfold two at h387;unfold qbP;rw[qae T (hT 916 qf1 rfl) rfl];simp[qf1,Fr.ofArgs,h945,h387,e946,↓qaD,↓qaH,mkA,qal,AValue.dv]
  ·refine⟨(⟨0,0⟩,q.2),?_⟩;have g:=qai h0
   unfold two at h387;unfold qbP;rw[qae T (hT 916 qf1 rfl) rfl];simp[qf1,Fr.ofArgs,h945,h387,g,bne,↓qaD,↓qaH,mkA,qal,AValue.dv]
end Go.Sim
end
section
namespace Go.Sim
set_option maxRecDepth 10000
set_option maxHeartbeats 4000000
structure MvY (Y:Nat→List PV→Heap→Option (PV×Heap)) (σ:Type) (HS:σ→Heap) (m o pj pa:Nat) (j:List AEntry) (t:Bool) (acc:Int) (P:σ→Prop) (f:σ→AEntry→ALeg→σ):Prop where
 len : ∀s,(HS s).length=m
 cl : ∀s,Cl (HS s)
 oj : ∀s J,Heap.obj (HS s++J) pj=some (.box K0 (.d (.l (K1 10) (j.map AEntry.dv) t)))
 oa : ∀s J,Heap.obj (HS s++J) pa=some (.box K0 (.d (I acc)))
 lo:o<m∧pj<m∧pa<m
 hp : ∀s e x,P s→e∈j→x∈e.Legs.l→P (f s e x)
 y : ∀s e x,P s→e∈j→x∈e.Legs.l→x.Account=acc→Y o [.d e.dv,.d (I x.Amount)] (HS s++[some (.box (K1 10) (.d e.dv)),some (.box (K1 3) (.d x.dv))])=some (.d (.b true),HS (f s e x)++[some (.box (K1 10) (.d e.dv)),some (.box (K1 3) (.d x.dv))])
def mvL {σ:Type} (acc:Int) (f:σ→AEntry→ALeg→σ) (e:AEntry) (_:Nat) (s:σ) (x:ALeg):σ:=if x.Account=acc then f s e x else s
def mvE {σ:Type} (acc:Int) (f:σ→AEntry→ALeg→σ) (_:Nat) (s:σ) (e:AEntry):σ:=qaj (mvL acc f e) 0 s e.Legs.l
section
variable {Y : Nat → List PV → Heap → Option (PV × Heap)} {σ : Type} {HS : σ → Heap} {m o pj pa : Nat} {j : List AEntry} {t : Bool} {acc : Int} {P : σ → Prop} {f : σ → AEntry → ALeg → σ}
theorem qEZ (T:Tab) (h:MvY Y σ HS m o pj pa j t acc P f) (e:AEntry) (he:e∈j) (hn:e.Legs.l.length≤maxLen) (oi:Nat) (s0:σ) (hs0:P s0) {k:KC (PV×Heap)} {fr:Fr} {H:Heap}
  (h0:gc [0,2,5,8,9,10,15,16,17] m ⟨fr,H⟩=⟨[(17,.d (I 0)),(16,.d (I e.Legs.l.length)),(15,.d (.l (K1 3) (e.Legs.l.map ALeg.dv) e.Legs.t)),(10,.d (I oi)),(9,.d (I j.length)),(8,.d (.l (K1 10) (j.map AEntry.dv) t)),(5,.p m 0 0),(2,.p pa 0 0),(0,.h o)],HS s0++[some (.box (K1 10) (.d e.dv))]⟩) :
  kC (T.envY Y) m fr H (.h (.loop [0,2,5,8,9,10,15,16,17] qms,k))=k (.exit 2) [(18,.d (.b false)),(17,.d (I e.Legs.l.length)),(16,.d (I e.Legs.l.length)),(15,.d (.l (K1 3) (e.Legs.l.map ALeg.dv) e.Legs.t)),(10,.d (I oi)),(9,.d (I j.length)),(8,.d (.l (K1 10) (j.map AEntry.dv) t)),(5,.p m 0 0),(2,.p pa 0 0),(0,.h o)] (HS (qaj (mvL acc f e) 0 s0 e.Legs.l)++[some (.box (K1 10) (.d e.dv))]):=by
 have hm:=mxl
 rw[qb1 e.Legs.l (fun i (s:σ)=>⟨[(17,.d (I i)),(16,.d (I e.Legs.l.length)),(15,.d (.l (K1 3) (e.Legs.l.map ALeg.dv) e.Legs.t)),(10,.d (I oi)),(9,.d (I j.length)),(8,.d (.l (K1 10) (j.map AEntry.dv) t)),(5,.p m 0 0),(2,.p pa 0 0),(0,.h o)],HS s++[some (.box (K1 10) (.d e.dv))]⟩) (fun _ s=>P s) (fun i s x c=>c (mvL acc f e i s x)) (fun s=>k (.exit 2) [(18,.d (.b false)),(17,.d (I e.Legs.l.length)),(16,.d (I e.Legs.l.length)),(15,.d (.l (K1 3) (e.Legs.l.map ALeg.dv) e.Legs.t)),(10,.d (I oi)),(9,.d (I j.length)),(8,.d (.l (K1 10) (j.map AEntry.dv) t)),(5,.p m 0 0),(2,.p pa 0 0),(0,.h o)] (HS s++[some (.box (K1 10) (.d e.dv))])) ?_ ?_ h0 hs0]
 ·rw[qfQ (mvL acc f e) _ _ (fun _ _ _ _=>rfl)]
 ·intro B _ s _;simp[qms]
 ·intro B _ i s hi hs c hc;have h1:(i:Int)<e.Legs.l.length:=by omega
  have h3:=wr1 (i:=i) (by omega)
  have hx:e.Legs.l[i]∈e.Legs.l:=zzs hi
  have hl:=h.len s
  have hoa:=h.oa s
  have ho0 : ∀J,Heap.obj (HS s++J) m=Heap.obj J 0:=fun J=>by rw[←hl];exact qgK _ _
  have ho1 : ∀J,Heap.obj (HS s++J) (m+1)=Heap.obj J 1:=fun J=>by rw[←hl];exact qhD _ _ 1
  have hp1 : ∀J v,Heap.put (HS s++J) (m+1) v=HS s++Heap.put J 1 v:=fun J v=>by rw[←hl];exact qhp _ _ _ 1
  simp[qms,h1,hi,hl,hoa,ho1,hp1];refine qa9 (fun g => ?_) (fun g => ?_)
  ·have g':e.Legs.l[i].Account=acc:=by simpa using g
   have hy:=h.y s e e.Legs.l[i] hs he hx g'
   have hs':=h.hp s e e.Legs.l[i] hs he hx
   have hl':=h.len (f s e e.Legs.l[i])
   simp[g,h3,hl,ho0,ho1,hp1,hy,↓qB2,qC9];have e1:mvL acc f e i s e.Legs.l[i]=f s e e.Legs.l[i]:=by simp[mvL,g']
   rw[e1];refine hc _ _ _ hs' ?_;rw[←hl',qqc _ (h.cl _) rfl (by simp[Fr.keep,qac,gh,PV.refs]) (by simp[Fr.keep,qac,gh,PV.refs,hl'];have:=h.lo;omega) (by simp[Fr.keep,qac,gh,PV.refs,hl'])]
   simp[Fr.keep,gh,hl']
  ·have g' : ¬e.Legs.l[i].Account=acc:=by simpa using g
   simp[g,h3,hl,hp1];have e1:mvL acc f e i s e.Legs.l[i]=s:=by simp[mvL,g']
   rw[e1];refine hc _ _ _ hs ?_;rw[←hl,qqc _ (h.cl _) rfl (by simp[Fr.keep,qac,gh,PV.refs]) (by simp[Fr.keep,qac,gh,PV.refs,hl];have:=h.lo;omega) (by simp[Fr.keep,qac,gh,PV.refs,hl])]
   simp[Fr.keep,gh,hl]
theorem qEH (h:MvY Y σ HS m o pj pa j t acc P f) {e:AEntry} (he:e∈j) {s:σ} (hs:P s):P (qaj (mvL acc f e) 0 s e.Legs.l):=by
 have key : ∀(l:List ALeg) (i:Nat) (s:σ),P s→(∀x∈l,x∈e.Legs.l)→P (qaj (mvL acc f e) i s l):=by
  intro l;induction l with
  |nil=>intro i s hs _;exact hs
  |cons x l ih =>
   intro i s hs hl;rw[qaj];refine ih _ _ ?_ fun y hy=>hl y (zzi _ hy)
   unfold mvL;split
   ·exact h.hp s e x hs he (hl x (zzr ..))
   ·exact hs
 exact key _ _ _ hs fun _ hx=>hx
theorem qw7 (T:Tab) (h:MvY Y σ HS m o pj pa j t acc P f) (hn:j.length≤maxLen) (ho : ∀e∈j,e.Legs.l.length≤maxLen) (s0:σ) (hs0:P s0) {k:KC (PV×Heap)} {fr:Fr} {H:Heap}
  (h0:gc [0,2,8,9,10] m ⟨fr,H⟩=⟨[(10,.d (I 0)),(9,.d (I j.length)),(8,.d (.l (K1 10) (j.map AEntry.dv) t)),(2,.p pa 0 0),(0,.h o)],HS s0⟩) :
  kC (T.envY Y) m fr H (.h (.loop [0,2,8,9,10] qmW,k))=k (.exit 0) [(11,.d (.b false)),(10,.d (I j.length)),(9,.d (I j.length)),(8,.d (.l (K1 10) (j.map AEntry.dv) t)),(2,.p pa 0 0),(0,.h o)] (HS (qaj (mvE acc f) 0 s0 j)):=by
 have hm:=mxl
 rw[qb1 j (fun i (s:σ)=>⟨[(10,.d (I i)),(9,.d (I j.length)),(8,.d (.l (K1 10) (j.map AEntry.dv) t)),(2,.p pa 0 0),(0,.h o)],HS s⟩) (fun _ s=>P s) (fun i s x c=>c (mvE acc f i s x)) (fun s=>k (.exit 0) [(11,.d (.b false)),(10,.d (I j.length)),(9,.d (I j.length)),(8,.d (.l (K1 10) (j.map AEntry.dv) t)),(2,.p pa 0 0),(0,.h o)] (HS s)) ?_ ?_ h0 hs0]
 ·rw[qfQ (mvE acc f) _ _ (fun _ _ _ _=>rfl)]
 ·intro B _ s _;simp[qmW]
 ·intro B _ i s hi hs c hc;have h1:(i:Int)<j.length:=by omega
  have h3:=wr1 (i:=i) (by omega)
  have he:j[i]∈j:=zzs hi
  have hl:=h.len s
  have ho0 : ∀J,Heap.obj (HS s++J) m=Heap.obj J 0:=fun J=>by rw[←hl];exact qgK _ _
  have hp0 : ∀J v,Heap.put (HS s++J) m v=HS s++Heap.put J 0 v:=fun J v=>by rw[←hl];exact qh0 _ _ _
  have lp:=fun k fr H => @qEZ Y σ HS m o pj pa j t acc P f T h j[i] he (ho _ he) i s hs k fr H
  simp[qmW,h1,hi,hl,ho0,hp0];rw[lp]
  ·simp[h3];have hs':=qEH h he hs
   have hl':=h.len (qaj (mvL acc f j[i]) 0 s j[i].Legs.l)
   refine (hc _ _ _ hs' ?_).trans rfl;rw[←hl',qvF _ (h.cl _) (by simp[Fr.keep,qac,gh,PV.refs,hl'];have:=h.lo;omega)]
   simp[Fr.keep,gh]
  ·rw[←hl,qqc _ (h.cl _) rfl (by simp[Fr.keep,qac,gh,PV.refs]) (by simp[Fr.keep,qac,gh,PV.refs,hl];have:=h.lo;omega) (by simp[Fr.keep,qac,gh,PV.refs,hl])]
   simp[Fr.keep,gh,hl]
theorem qpj (T:Tab) (hT:HU T) (h:MvY Y σ HS m o pj pa j t acc P f) (hn:j.length≤maxLen) (ho : ∀e∈j,e.Legs.l.length≤maxLen) (s0:σ) (hs0:P s0) :
  T.it Y 59 [.h o,.p pj 0 0,.p pa 0 0] (HS s0)=some (.t [],HS (qaj (mvE acc f) 0 s0 j)):=by
 rw[qBe T (hT 59 F59 rfl) Y rfl];have lp:=fun k fr H => @qw7 Y σ HS m o pj pa j t acc P f T h hn ho s0 hs0 k fr H
 have hl:=h.len s0
 have hoj:Heap.obj (HS s0) pj=some (.box K0 (.d (.l (K1 10) (j.map AEntry.dv) t))):=by have:=h.oj s0 [];rwa [List.append_nil] at this
 simp[F59,Fr.ofArgs,hl,hoj];rw[lp]
 ·simp[qqC];rw[hl,←h.len (qaj (mvE acc f) 0 s0 j)];exact qjj (h.cl _) (by simp[qc1,PV.refs,PV.refsL])
 ·rw[←hl,qkE _ (h.cl _) (by simp[Fr.keep,qac,gh,PV.refs,hl];have:=h.lo;omega)]
  simp[Fr.keep,gh]
end
end Go.Sim
end
section
namespace Go.Sim
set_option maxRecDepth 10000
set_option maxHeartbeats 4000000
theorem qF2 (T:Tab) (hT:HU T) (j:List AEntry) (t:Bool) (acc:Int) (k0:K) (v0:DV):T.ref 50 [.d (.l (K1 10) (j.map AEntry.dv) t),.d (I acc)] [some (.box k0 (.d v0))]=some (.f 59 [.p 1 0 0,.p 2 0 0],[some (.box k0 (.d v0)),some (.box K0 (.d (.l (K1 10) (j.map AEntry.dv) t))),some (.box K0 (.d (I acc)))]):=by
 rw[qcz T (hT 50 F50 rfl) rfl];simp[F50,Fr.ofArgs,qb2,gcV,qad,qab,qaf,Obj.refs,PV.refs,PV.refsL,qag,gcH,PV.ren,PV.renL,Obj.ren,Heap.obj,zzd]
def qi8 (j:List AEntry) (t:Bool) (acc:Int) (s:Int):Heap:=[some (.box K0 (.d (I s))),some (.box K0 (.d (.l (K1 10) (j.map AEntry.dv) t))),some (.box K0 (.d (I acc))),some (.lp 0 none),some .df]
def fOf (s:Int) (_:AEntry) (x:ALeg):Int:=w64 (s-x.Amount)
def ofP (j:List AEntry) (acc:Int):Int:=qaj (mvE acc fOf) 0 0 j
theorem qBc (T:Tab) (_hT:HU T) (j:List AEntry) (t:Bool) (acc:Int):MvY (qhl T.env qqq qpJ [(5,.p 0 0 0)] 3 [11,12]) Int (qi8 j t acc) 5 3 1 2 j t acc (fun _=>True) fOf where
 len _:=rfl
 cl _:=by intro r h;simp[qi8,qab,qaf,Obj.refs,PV.refs] at h
 oj _ _:=rfl
 oa _ _:=rfl
 lo:=⟨by decide,by decide,by decide⟩
 hp _ _ _ _ _ _:=trivial
 y s e x _ _ _ _:=by
  rw[qpO rfl rfl];simp[qqq,qpJ,qi8,qfn];exact qjj (H:=qi8 j t acc (fOf s e x)++[some (.box (K1 10) (.d e.dv)),some (.box (K1 3) (.d x.dv))]) (by intro r h;simp[qi8,qab,qaf,Obj.refs,PV.refs] at h) (v:=.d (.b true)) (by simp[PV.refs])
theorem qso (T:Tab) (hT:HU T) (l:List AEntry) (t:Bool) (acc:Int) (hn:l.length≤maxLen) (ho : ∀e∈l,e.Legs.l.length≤maxLen):T.val 715 [.l (K1 10) (l.map AEntry.dv) t,I acc]=some (.d (I (ofP l acc)),false):=by
 rw[qae T (hT 715 qld rfl) rfl];have e:=qF2 T hT l t acc K0 (I 0)
 have e2:=qpj T hT (qBc T hT l t acc) hn ho 0 trivial
 simp[qld,Fr.ofArgs,e,↓qnS,↓qq6,qn1,Fr.only];refine (congrArg (fun z=>bo z _) e2).trans ?_
 simp[qjc,qi8,fin,runG];rfl
theorem qhf (a b:Int):w64 (w64 a+b)=w64 (a+b):=by
 unfold w64;rw[IntKind.wrap_i64,IntKind.wrap_i64,IntKind.wrap_i64];omega
theorem qph (a b:Int):w64 (a+w64 b)=w64 (a+b):=by rw[Int.add_comm,qhf,Int.add_comm]
theorem qki (a:Int):w64 (w64 a)=w64 a:=by have:=qhf a 0;simpa using this
theorem qnp (acc s:Int) : ∀(l:List ALeg) (i:Nat) (d:Int),qaj (qcp acc) i (w64 (s+d)) l=w64 (s+qaj (qcp acc) i (w64 d) l)
 | [],i,d=>by simp only[qaj];rw[qph]
 |x::l,i,d=>by
  simp only[qaj];by_cases h:(x.Account==acc)=true
  ·have e1:qcp acc i (w64 (s+d)) x=w64 (s+(d-x.Amount)):=by
    simp only[qcp,h,if_true,Int.sub_eq_add_neg,qhf,Int.add_assoc]
   have e2:qcp acc i (w64 d) x=w64 (d-x.Amount):=by
    simp only[qcp,h,if_true,Int.sub_eq_add_neg,qhf]
   rw[e1,e2,qnp acc s l (i+1)]
  ·have e1:qcp acc i (w64 (s+d)) x=w64 (s+d):=by simp only[qcp,if_neg h]
   have e2:qcp acc i (w64 d) x=w64 d:=by simp only[qcp,if_neg h]
   rw[e1,e2,qnp acc s l (i+1)]
theorem qta (acc:Int) (e:AEntry) : ∀(l:List ALeg) (i:Nat) (s:Int),qaj (mvL acc fOf e) i s l=qaj (qcp acc) i s l
 | [],_,_=>rfl
 |x::l,i,s=>by
  have:mvL acc fOf e i s x=qcp acc i s x:=by by_cases h:x.Account=acc<;>simp[mvL,qcp,fOf,h]
  rw[qaj,qaj,this,qta acc e l]
theorem qsY (acc:Int) : ∀(l:List AEntry) (i:Nat) (n:Int),w64 n=n→qaj (mvE acc fOf) i n l=qaj (ql1 acc) i n l
 | [],_,_,_=>rfl
 |e::l,i,n,h=>by
  have e1:mvE acc fOf i n e=ql1 acc i n e:=by
   unfold mvE ql1 qmA;rw[qta]
   have:=qnp acc n e.Legs.l 0 0
   rw[Int.add_zero,h,show w64 0=0 from rfl] at this
   exact this
  rw[qaj,qaj,e1];exact qsY acc l (i+1) _ (qki _)
theorem qr3 (l:List AEntry) (acc:Int):ofP l acc=ofR l acc:=qsY acc l 0 0 rfl
end Go.Sim
end
section
namespace Go.Sim
set_option maxRecDepth 10000
set_option maxHeartbeats 4000000
def qmO (b:ABooks) (id day:Int):Int×Int:=if (qik b id day).2=0 then (w64 (w64 (w64 (ofR b.Journal.l id-(qik b id day).1)-qp2 b.Holds.l id day)-qo9 b.Blocks.l id day),0) else (0,(qik b id day).2)
theorem qyL (T:Tab) (hT:HU T) (b:ABooks) (id day:Int) (hb:b.ok) (hbl:b.Blocks.l.length≤100000):T.val 634 [b.dv,I id,I day]=some (.t [.d (I (qmO b id day).1),.d (I (qmO b id day).2)],false):=by
 rw[qae T (hT 634 qj3 rfl) rfl];have e1:=qDY T hT b id day hb
 have e2:=qso T hT b.Journal.l b.Journal.t id (hb.2.2.2.2.2.2.1).1 (fun e he=>((hb.2.2.2.2.2.2.1).2 e he).2.2.2.2.2.2.2.2.1.1)
 rw[qr3] at e2;have e3:=qDx T hT b.Holds.l b.Holds.t id day (hb.2.2.2.2.2.2.2.1).1
 have e4:=qAw T hT b.Blocks.l b.Blocks.t id day hbl
 unfold qmO;generalize qik b id day=fl at e1⊢;simp[qj3,Fr.ofArgs,e1];repeat' (refine qa9 (fun h => ?_) (fun h => ?_)<;>(try simp at h)<;>(try simp[h,e2,e3,e4]))
 all_goals simp_all[w64]
end Go.Sim
end
section
namespace Go.Sim
set_option maxRecDepth 10000
set_option maxHeartbeats 4000000
theorem qDy (T:Tab) (hT:HU T) (j:List AEntry) (t:Bool) (acc:Int) (k0 k1 k2 k3:K) (v0 v1 v2 v3:DV):T.ref 50 [.d (.l (K1 10) (j.map AEntry.dv) t),.d (I acc)] [some (.box k0 (.d v0)),some (.box k1 (.d v1)),some (.box k2 (.d v2)),some (.box k3 (.d v3))]=some (.f 59 [.p 4 0 0,.p 5 0 0],[some (.box k0 (.d v0)),some (.box k1 (.d v1)),some (.box k2 (.d v2)),some (.box k3 (.d v3)),some (.box K0 (.d (.l (K1 10) (j.map AEntry.dv) t))),some (.box K0 (.d (I acc)))]):=by
  rw[qcz T (hT 50 F50 rfl) rfl];simp[F50,Fr.ofArgs,qb2,gcV,qad,qab,qaf,Obj.refs,PV.refs,PV.refsL,qag,gcH,PV.ren,PV.renL,Obj.ren,Heap.obj,zzd]
abbrev DC:=Int×Int
def fTo (frm upto:Int) (s:DC) (e:AEntry) (x:ALeg):DC:=if e.Booked<frm∨upto<e.Booked then s else if 0<x.Amount then (w64 (s.1+x.Amount),s.2) else (s.1,w64 (s.2-x.Amount))
def qgt (frm upto:Int) (j:List AEntry) (t:Bool) (acc:Int) (s:DC):Heap:=[some (.box K0 (.d (I frm))),some (.box K0 (.d (I upto))),some (.box K0 (.d (I s.1))),some (.box K0 (.d (I s.2))),some (.box K0 (.d (.l (K1 10) (j.map AEntry.dv) t))),some (.box K0 (.d (I acc))),some (.lp 0 none),some .df]
theorem qEG (T:Tab) (_hT:HU T) (frm upto:Int) (j:List AEntry) (t:Bool) (acc:Int):MvY (qhl T.env qpA qnL [(11,.p 3 0 0),(10,.p 2 0 0),(7,.p 1 0 0),(6,.p 0 0 0)] 6 [17,18]) DC (qgt frm upto j t acc) 8 6 4 5 j t acc (fun _=>True) (fTo frm upto) where
  len _:=rfl
  cl _:=by intro r h;simp[qgt,qab,qaf,Obj.refs,PV.refs] at h
  oj _ _:=rfl
  oa _ _:=rfl
  lo:=⟨by decide,by decide,by decide⟩
  hp _ _ _ _ _ _:=trivial
  y s e x _ _ _ _:=by
    rw[qpO rfl rfl];simp[qpA,qnL,qgt,qfn];repeat' (refine qa9 (fun h => ?_) (fun h => ?_)<;>(try simp at h)<;>(try simp[h]))
    all_goals first
      | (have ef:fTo frm upto s e x=s:=by rw[fTo,if_pos (by omega)]
         rw[ef];exact qjj (H:=qgt frm upto j t acc s++[some (.box (K1 10) (.d e.dv)),some (.box (K1 3) (.d x.dv))]) (by intro r h;simp[qgt,qab,qaf,Obj.refs,PV.refs] at h) (v:=.d (.b true)) (by simp[PV.refs]))
      | (have ef:fTo frm upto s e x=(w64 (s.1+x.Amount),s.2):=by rw[fTo,if_neg (by omega),if_pos (by omega)]
         rw[ef];exact qjj (H:=qgt frm upto j t acc (w64 (s.1+x.Amount),s.2)++[some (.box (K1 10) (.d e.dv)),some (.box (K1 3) (.d x.dv))]) (by intro r h;simp[qgt,qab,qaf,Obj.refs,PV.refs] at h) (v:=.d (.b true)) (by simp[PV.refs]))
      | (have ef:fTo frm upto s e x=(s.1,w64 (s.2-x.Amount)):=by rw[fTo,if_neg (by omega),if_neg (by omega)]
         rw[ef];exact qjj (H:=qgt frm upto j t acc (s.1,w64 (s.2-x.Amount))++[some (.box (K1 10) (.d e.dv)),some (.box (K1 3) (.d x.dv))]) (by intro r h;simp[qgt,qab,qaf,Obj.refs,PV.refs] at h) (v:=.d (.b true)) (by simp[PV.refs]))
theorem qEg (T:Tab) (hT:HU T) (hV:HV T) (l:List AEntry) (t:Bool) (acc frm upto:Int) (hn:l.length≤maxLen) (ho : ∀e∈l,e.Legs.l.length≤maxLen):T.val 882 [.l (K1 10) (l.map AEntry.dv) t,I acc,I frm,I upto]=some (.t [.d (I (qaj (mvE acc (fTo frm upto)) 0 (0,0) l).1),.d (I (qaj (mvE acc (fTo frm upto)) 0 (0,0) l).2)],false):=by
  rw[qae T (hV 882 qks rfl) rfl];have e:=qDy T hT l t acc K0 K0 K0 K0 (I frm) (I upto) (I 0) (I 0)
  have e2:=qpj T hT (qEG T hT frm upto l t acc) hn ho (0,0) trivial
  simp[qks,Fr.ofArgs,e,↓qnS,↓qq6,qn1,Fr.only];refine (congrArg (fun z=>bo z _) e2).trans ?_
  simp[qjc,qgt,fin,runG,↓qa5,↓qa8,↓qaW,↓qaY,qaZ,↓qa1,↓qa2,qaM,writeS,touchS,qam,qax,chg,qaK,qaB,qat,qaE,PV.refs,IOp.okD,Nat.testBit];try rfl
def fTr (acc:Int) (_:Nat) (s:DC) (x:ALeg):DC:=if x.Account=acc∧0<x.Amount then (w64 (s.1+x.Amount),s.2) else if x.Account=acc∧x.Amount<0 then (s.1,w64 (s.2-x.Amount)) else s
def fTR (acc frm upto:Int) (_:Nat) (s:DC) (e:AEntry):DC:=if e.Booked<frm∨upto<e.Booked then s else qaj (fTr acc) 0 s e.Legs.l
def qh7 (j:List AEntry) (acc frm upto:Int):DC:=qaj (fTR acc frm upto) 0 (0,0) j
theorem qmC {acc:Int} {i:Nat} {s:DC} {x:ALeg} (h1:w64 s.1=s.1) (h2:w64 s.2=s.2):w64 (fTr acc i s x).1=(fTr acc i s x).1∧w64 (fTr acc i s x).2=(fTr acc i s x).2:=by
  unfold fTr;split
  · exact⟨qki _,h2⟩
  · split
    · exact⟨h1,qki _⟩
    · exact⟨h1,h2⟩
theorem quX {acc:Int} : ∀(l:List ALeg) (i:Nat) (s:DC),w64 s.1=s.1→w64 s.2=s.2→w64 (qaj (fTr acc) i s l).1=(qaj (fTr acc) i s l).1∧w64 (qaj (fTr acc) i s l).2=(qaj (fTr acc) i s l).2
  | [],_,_,h1,h2=>⟨h1,h2⟩
  |x::l,i,s,h1,h2=>by rw[qaj];exact quX l _ _ (qmC h1 h2).1 (qmC h1 h2).2
theorem qoo (acc frm upto:Int) (e:AEntry) : ∀(l:List ALeg) (i:Nat) (s:DC),w64 s.1=s.1→w64 s.2=s.2→qaj (mvL acc (fTo frm upto) e) i s l=if e.Booked<frm∨upto<e.Booked then s else qaj (fTr acc) i s l
  | [],_,s,_,_=>by simp[qaj]
  |x::l,i,s,h1,h2=>by
    by_cases h:e.Booked<frm∨upto<e.Booked
    · have e1:mvL acc (fTo frm upto) e i s x=s:=by unfold mvL fTo;split<;>simp
      rw[qaj,e1,qoo acc frm upto e l _ _ h1 h2,if_pos h,if_pos h]
    · have e1:mvL acc (fTo frm upto) e i s x=fTr acc i s x:=by
        unfold mvL fTo fTr;rw[if_neg h];by_cases ha:x.Account=acc
        · rw[if_pos ha]
          by_cases hp:0<x.Amount
          · rw[if_pos hp,if_pos ⟨ha,hp⟩]
          · rw[if_neg hp,if_neg (by omega)]
            by_cases hm:x.Amount<0
            · rw[if_pos ⟨ha,hm⟩]
            · rw[if_neg (by omega),show x.Amount=0 by omega,Int.sub_zero,h2]
        · rw[if_neg ha,if_neg (fun q=>ha q.1),if_neg (fun q=>ha q.1)]
      rw[qaj,e1,qoo acc frm upto e l _ _ (qmC h1 h2).1 (qmC h1 h2).2,if_neg h,if_neg h,qaj]
theorem quh (acc frm upto:Int) : ∀(l:List AEntry) (i:Nat) (s:DC),w64 s.1=s.1→w64 s.2=s.2→qaj (mvE acc (fTo frm upto)) i s l=qaj (fTR acc frm upto) i s l
  | [],_,_,_,_=>rfl
  |e::l,i,s,h1,h2=>by
    have e1:mvE acc (fTo frm upto) i s e=fTR acc frm upto i s e:=by
      unfold mvE fTR;exact qoo acc frm upto e _ _ _ h1 h2
    have q:w64 (fTR acc frm upto i s e).1=(fTR acc frm upto i s e).1∧w64 (fTR acc frm upto i s e).2=(fTR acc frm upto i s e).2:=by
      unfold fTR;split
      · exact⟨h1,h2⟩
      · exact quX _ _ _ h1 h2
    rw[qaj,qaj,e1];exact quh acc frm upto l (i+1) _ q.1 q.2
theorem qzt (T:Tab) (hT:HU T) (hV:HV T) (l:List AEntry) (t:Bool) (acc frm upto:Int) (hn:l.length≤maxLen) (ho : ∀e∈l,e.Legs.l.length≤maxLen):T.val 882 [.l (K1 10) (l.map AEntry.dv) t,I acc,I frm,I upto]=some (.t [.d (I (qh7 l acc frm upto).1),.d (I (qh7 l acc frm upto).2)],false):=by
  rw[qEg T hT hV l t acc frm upto hn ho,quh acc frm upto l 0 (0,0) rfl rfl];rfl
end Go.Sim
end
section
namespace Go.Sim
set_option maxRecDepth 10000
set_option maxHeartbeats 4000000
def qbT (s:Int):List Int→List Int
 | []=>[]
 |x::r=>w64 (s+x)::qbT (w64 (s+x)) r
def qcc:Nat→Int→List Int→List Int
 | _,_,[]=>[]
 | 0,n,x::r=>w64 (x+n)::qcc 0 n r
 |k+1,n,x::r=>x::qcc k n r
theorem qnw : ∀(l:List Int) (s:Int),(qbT s l).length=l.length
 | [],_=>rfl
 |x::l,s=>by simp[qbT,qnw l]
theorem qoq : ∀(l:List Int) (k:Nat) (n:Int),(qcc k n l).length=l.length
 | [],_,_=>rfl
 |x::l,0,n=>by simp[qcc,qoq l]
 |x::l,k+1,n=>by simp[qcc,qoq l]
theorem qrL : ∀(l:List Int) (s a:Int),qbT (w64 (s+a)) l=qcc 0 a (qbT s l)
 | [],_,_=>rfl
 |x::l,s,a=>by
  have e:w64 (w64 (s+a)+x)=w64 (w64 (s+x)+a):=by rw[qhf,qhf];congr 1;omega
  simp only[qbT,qcc];rw[e,qrL l]
theorem quv : ∀(l:List Int) (k:Nat) (s a:Int) (h:k<l.length),qbT s (l.set k (w64 (l[k]+a)))=qcc k a (qbT s l)
 | [],_,_,_,h=>absurd h (by simp)
 |x::l,0,s,a,_=>by
  have e:w64 (s+w64 (x+a))=w64 (w64 (s+x)+a):=by rw[qhf,qph];congr 1;omega
  simp only[List.set_cons_zero,List.getElem_cons_zero,qbT,qcc];rw[e,qrL]
 |x::l,k+1,s,a,h=>by
  simp only[List.set_cons_succ,List.getElem_cons_succ,qbT,qcc];rw[quv l k _ a (by simpa using h)]
theorem qre : ∀(l:List Int) (k:Nat) (a b:Int),qcc k a (qcc k b l)=qcc k (w64 (b+a)) l
 | [],_,_,_=>rfl
 |x::l,0,a,b=>by
  simp only[qcc];rw[qre l,qhf,qph,Int.add_assoc]
 |x::l,k+1,a,b=>by simp only[qcc];rw[qre l]
theorem qqv : ∀(l:List Int) (k:Nat),(∀x∈l,w64 x=x)→qcc k 0 l=l
 | [],_,_=>rfl
 |x::l,0,h=>by simp only[qcc,Int.add_zero];rw[qqv l 0 fun y hy=>h y (zzi _ hy),h x (zzr ..)]
 |x::l,k+1,h=>by simp only[qcc];rw[qqv l k fun y hy=>h y (zzi _ hy)]
theorem qru : ∀(l:List Int) (k:Nat) (a:Int),l.length≤k→qcc k a l=l
 | [],_,_,_=>rfl
 |x::l,0,a,h=>by simp at h
 |x::l,k+1,a,h=>by simp only[qcc];rw[qru l k a (by simpa using h)]
theorem qux : ∀n,qbT 0 (List.replicate n 0)=List.replicate n 0
 | 0=>rfl
 |n+1=>by simp only[List.replicate_succ,qbT];rw[show w64 (0+0)=0 from rfl,qux n]
def psP (s:Int):Nat→List Int→List Int
 | _,[]=>[]
 | 0,l=>l
 |i+1,x::r=>w64 (s+x)::psP (w64 (s+x)) i r
theorem qmi : ∀(l:List Int) (s:Int) (i:Nat),(psP s i l).length=l.length
 | [],s,i=>by cases i<;>rfl
 |x::l,s,0=>rfl
 |x::l,s,i+1=>by simp[psP,qmi l]
theorem qtV : ∀(l:List Int) (s:Int) (i:Nat),l.length≤i→psP s i l=qbT s l
 | [],s,i,_=>by cases i<;>rfl
 |x::l,s,0,h=>by simp at h
 |x::l,s,i+1,h=>by simp only[psP,qbT];rw[qtV l _ i (by simpa using h)]
theorem qs0 (l:List Int) (s:Int):psP s 0 l=l:=by cases l<;>rfl
theorem qrh : ∀(l:List Int) (s:Int) (i:Nat) (h:i+1<(psP s (i+1) l).length),(psP s (i+1) l).set (i+1) (w64 ((psP s (i+1) l)[i+1]+(psP s (i+1) l)[i]))=psP s (i+2) l
 | [],s,i,h=>by simp[psP] at h
 | [x],s,i,h=>by simp[qmi] at h
 |x::y::l,s,0,h=>by
  simp only[psP,List.set_cons_succ,List.set_cons_zero,List.getElem_cons_succ,List.getElem_cons_zero,qs0];rw[show w64 (y+w64 (s+x))=w64 (w64 (s+x)+y) by rw[Int.add_comm]]
 |x::y::l,s,i+1,h=>by
  have ih:=qrh (y::l) (w64 (s+x)) i (by rw[qmi] at h⊢;simp at h⊢;omega)
  have a:psP s (i+1+1) (x::y::l)=w64 (s+x)::psP (w64 (s+x)) (i+1) (y::l):=rfl
  have b:psP s (i+1+2) (x::y::l)=w64 (s+x)::psP (w64 (s+x)) (i+2) (y::l):=rfl
  simp only[a,b,List.set_cons_succ,List.getElem_cons_succ];exact congrArg _ ih
theorem qFj (l:List Int) (h : ∀x∈l,w64 x=x):psP 0 1 l=l:=by
 cases l with
 |nil=>rfl
 |cons x r=>simp only[psP,Int.zero_add,qs0];rw[h x (zzr ..)]
end Go.Sim
end
section
namespace Go.Sim
set_option maxRecDepth 10000
set_option maxHeartbeats 4000000
def dOf (frm v:Int):Nat:=(max frm v-frm).toNat
def fDa (frm upto:Int) (es:List Int) (e:AEntry) (x:ALeg):List Int:=if e.Value≤upto then (match es[dOf frm e.Value]? with|some v=>es.set (dOf frm e.Value) (w64 (v-x.Amount))|none=>es) else es
theorem qqK {frm upto:Int} {es:List Int} {e:AEntry} {x:ALeg}:(fDa frm upto es e x).length=es.length:=by
 unfold fDa;split
 ·split
  ·simp
  ·rfl
 ·rfl
def qfR (frm upto:Int) (j:List AEntry) (t:Bool) (acc:Int) (n:Nat) (es:List Int):Heap:=[some (.box K0 (.d (I frm))),some (.box K0 (.d (I upto))),some (.sl K0 0 (es.map I)),some (.box K0 (.r 2 K0 0 n false)),some (.box K0 (.d (.l (K1 10) (j.map AEntry.dv) t))),some (.box K0 (.d (I acc))),some (.lp 0 none),some .df]
theorem qzZ (T:Tab) (hT:HU T) (j:List AEntry) (t:Bool) (acc frm upto:Int) (n:Nat) (es:List DV):T.ref 50 [.d (.l (K1 10) (j.map AEntry.dv) t),.d (I acc)] [some (.box K0 (.d (I frm))),some (.box K0 (.d (I upto))),some (.sl K0 0 es),some (.box K0 (.r 2 K0 0 n false))]=some (.f 59 [.p 4 0 0,.p 5 0 0],[some (.box K0 (.d (I frm))),some (.box K0 (.d (I upto))),some (.sl K0 0 es),some (.box K0 (.r 2 K0 0 n false)),some (.box K0 (.d (.l (K1 10) (j.map AEntry.dv) t))),some (.box K0 (.d (I acc)))]):=by
 rw[qcz T (hT 50 F50 rfl) rfl];simp[F50,Fr.ofArgs,qb2,gcV,qad,qab,qaf,Obj.refs,PV.refs,PV.refsL,qag,gcH,PV.ren,PV.renL,Obj.ren,Heap.obj,zzd]
theorem qyy (T:Tab) (_hT:HU T) (frm upto:Int) (j:List AEntry) (t:Bool) (acc:Int) (n:Nat) (h1:qbW frm=true) (h2:qbW upto=true) (h3:frm≤upto) (hn:(n:Int)=upto-frm+1):MvY (qhl T.env qma ql8 [(9,.p 3 0 0),(7,.p 1 0 0),(6,.p 0 0 0)] 6 [40,41]) (List Int) (qfR frm upto j t acc n) 8 6 4 5 j t acc (fun es=>es.length=n) (fDa frm upto) where
 len _:=rfl
 cl _:=by intro r h;simp[qfR,qab,qaf,Obj.refs,PV.refs] at h;subst h;simp[qfR]
 oj _ _:=rfl
 oa _ _:=rfl
 lo:=⟨by decide,by decide,by decide⟩
 hp _ _ _ h _ _:=by rw[qqK];exact h
 y es e x hl _ _ _:=by
  simp only[qbW,zzf,zzq] at h1 h2;rw[qpO rfl rfl];by_cases hv:e.Value≤upto
  ·obtain⟨m,hm⟩ : ∃m,max frm e.Value=m:=⟨_,rfl⟩;have hm1:frm≤m∧m≤upto:=by omega
   obtain⟨k,hk⟩ : ∃k,dOf frm e.Value=k:=⟨_,rfl⟩;have hk1:(k:Int)=m-frm:=by rw[←hk,dOf,hm];omega
   have w:IntKind.i64.wrap (m-frm)=(k:Int):=(wrI (by omega) (by omega)).trans hk1.symm
   have hk':(k:Int)<n:=by omega
   have hke:k<es.length:=by omega
   have hg:es[k]? = some es[k]:=zze hke
   have ef:fDa frm upto es e x=es.set k (w64 (es[k]-x.Amount)):=by rw[fDa,if_pos hv,hk,hg]
   rw[ef];simp[qma,ql8,qfR,qfn,hv,w,↓qgT,-qcs,↓qjX,↓qnf,↓qle,↓qgL,hm,hl,hk',hg,↓qfc];have ms : ∀v,(es.map I).set k (I v)=(es.set k v).map I:=fun v=>List.map_set.symm
   rw[ms,ms];exact qgd (H:=qfR frm upto j t acc n (es.set k (w64 (es[k]-x.Amount)))++[some (.box (K1 10) (.d e.dv)),some (.box (K1 3) (.d x.dv))]) (by intro r h;simp[qfR,qab,qaf,Obj.refs,PV.refs] at h;subst h;simp[qfR]) [some (.box (K1 10) (.d e.dv))] (.b true)
  ·have ef:fDa frm upto es e x=es:=by rw[fDa,if_neg hv]
   rw[ef];simp[qma,ql8,qfR,qfn,hv];exact qgd (H:=qfR frm upto j t acc n es++[some (.box (K1 10) (.d e.dv)),some (.box (K1 3) (.d x.dv))]) (by intro r h;simp[qfR,qab,qaf,Obj.refs,PV.refs] at h;subst h;simp[qfR]) [some (.box (K1 10) (.d e.dv))] (.b true)
theorem qyz (T:Tab) (es:List Int) (n:Nat) (hl:es.length=n) (hn:0<n) (hn2:n<5000) (hz : ∀x∈es,w64 x=x) {k:KC (PV×Bool)} {fr:Fr} {H:Heap} (h0:gc [9,12] 0 ⟨fr,H⟩=⟨[(100041,.g (.h 0)),(12,.d (I 1)),(9,.p 1 0 0)],[some .df,some (.box K0 (.r 2 K0 0 n false)),some (.sl K0 0 (es.map I))]⟩) :
  kC T.env 0 fr H (.h (.loop [9,12] qnu,k))=k (.exit 2) [(100041,.g (.h 0)),(61,.d (.b false)),(12,.d (I n)),(9,.p 1 0 0)] [some .df,some (.box K0 (.r 2 K0 0 n false)),some (.sl K0 0 ((qbT 0 es).map I))]:=by
 refine qhL (fun s:Nat×List Int=>⟨[(100041,.g (.h 0)),(12,.d (I s.1)),(9,.p 1 0 0)],[some .df,some (.box K0 (.r 2 K0 0 n false)),some (.sl K0 0 (s.2.map I))]⟩) (fun i=>(i+1,psP 0 (i+1) es)) (n-1) ?_ ?_ (by rw[h0,qFj _ hz];rfl)
 ·intro B _;have e:n-1+1=n:=by omega
  have e2:psP 0 n es=qbT 0 es:=qtV _ _ _ (by omega)
  have e3:(qbT 0 es).length=n:=by rw[qnw,hl]
  simp only[e,e2];simp[qnu,e3]
 ·intro B _ i hi c hc;have hlen:(psP 0 (i+1) es).length=n:=by rw[qmi,hl]
  have hst:=qrh es 0 i (by omega)
  obtain⟨fs,hfs⟩ : ∃fs,psP 0 (i+1) es=fs:=⟨_,rfl⟩;have g5':i+1<fs.length:=by rw[←hfs];omega
  have hst':psP 0 (i+1+1) es=fs.set (i+1) (w64 (fs[i+1]+fs[i])):=by subst hfs;exact hst.symm
  simp only[hfs] at hlen;clear hst
  simp only[hst'] at hc;simp only[hfs];have g1:(i:Int)+1<n:=by omega
  have g2:i+1<n:=by omega
  have g3:i<n:=by omega
  have g4:(i:Int)<n:=by omega
  have g5:i+1<fs.length:=by omega
  have g6:i<fs.length:=by omega
  have g7:(0:Int)≤(i:Int)+1:=by omega
  have g8:((i:Int)+1).toNat=i+1:=by omega
  have w1:IntKind.i64.wrap ((i:Int)+1-1)=i:=by rw[wrI (by omega) (by omega)];omega
  have w1':IntKind.i64.wrap (i:Int)=i:=wrI (by omega) (by omega)
  have w2:IntKind.i64.wrap ((i:Int)+1+1)=(i:Int)+1+1:=wrI (by omega) (by omega)
  simp[qnu,↓qa5,↓qa8,↓qaW,↓qbj,↓qaY,qaZ,↓qa1,↓qa2,↓qbk,↓qa3,↓qbf,qaM,writeS,touchS,qam,qax,chg,qaK,qaB,qat,qaE,PV.refs,IOp.okD,Nat.testBit,hlen,g1,g2,g3,g4,g7,w1',w2,↓qgT,-qcs,↓qjX,↓qle,↓qgL];refine hc _ _ ?_;rw[show ∀v,(fs.map I).set (i+1) (DV.i .i64 v)=(fs.set (i+1) v).map I from fun v=>List.map_set.symm]
  simp[gc,Fr.keep,qad,qac,qab,PV.refs,qag,gcH,qaf,Obj.refs,PV.ren,Obj.ren,Heap.obj,Fr.ren,gh,zzd,w64]
def qh9 (frm upto:Int):Bool:=qbW frm&&(qbW upto&&(decide (frm≤upto)&&decide (upto-frm<4000)))
def zer (frm upto:Int):List Int:=List.replicate (upto-frm+1).toNat 0
def qhR (j:List AEntry) (acc frm upto:Int):List Int:=if qh9 frm upto=true then qbT 0 (qaj (mvE acc (fDa frm upto)) 0 (zer frm upto) j) else []
theorem qDh {frm upto:Int} {es:List Int} {e:AEntry} {x:ALeg} (h : ∀y∈es,w64 y=y) : ∀y∈fDa frm upto es e x,w64 y=y:=by
 intro y hy;unfold fDa at hy;split at hy
 ·split at hy
  ·rcases List.mem_or_eq_of_mem_set hy with hy|rfl
   ·exact h y hy
   ·exact qki _
  ·exact h y hy
 ·exact h y hy
theorem ql4 {acc frm upto:Int} (P:List Int→Prop) (hP : ∀es e x,P es→P (fDa frm upto es e x)) : ∀(j:List AEntry) (i:Nat) (es:List Int),P es→P (qaj (mvE acc (fDa frm upto)) i es j)
 | [],_,_,h=>h
 |e::j,i,es,h=>by
  rw[qaj];refine ql4 P hP j _ _ ?_;have : ∀(l:List ALeg) (i:Nat) (es:List Int),P es→P (qaj (mvL acc (fDa frm upto) e) i es l):=by
   intro l;induction l with
   |nil=>intro _ _ h;exact h
   |cons x l ih =>
    intro i es h;rw[qaj];refine ih _ _ ?_;unfold mvL;split
    ·exact hP _ _ _ h
    ·exact h
  exact this _ _ _ h
theorem qDC (T:Tab) (hT:HU T) (hV:HV T) (j:List AEntry) (t:Bool) (acc frm upto:Int) (hn:j.length≤maxLen) (ho : ∀e∈j,e.Legs.l.length≤maxLen):T.val 880 [.l (K1 10) (j.map AEntry.dv) t,I acc,I frm,I upto]=some (.d (.l K0 ((qhR j acc frm upto).map I) false),true):=by
 rw[qae T (hV 880 qjr rfl) rfl];have e1:=qnh T hV frm
 have e2:=qnh T hV upto
 by_cases hok:qh9 frm upto=true
 ·have hd:qhR j acc frm upto=qbT 0 (qaj (mvE acc (fDa frm upto)) 0 (zer frm upto) j):=by rw[qhR,if_pos hok]
  rw[hd];simp only[qh9,zzf,zzq] at hok;obtain⟨h1,h2,h3,h4⟩:=hok;rw[h1] at e1;rw[h2] at e2;obtain⟨h1a,h1b⟩:0≤frm∧frm≤73048:=by simpa[qbW] using h1
  obtain⟨h2a,h2b⟩:0≤upto∧upto≤73048:=by simpa[qbW] using h2
  obtain⟨n,hnn⟩ : ∃n:Nat,(n:Int)=upto-frm+1:=⟨(upto-frm+1).toNat,by omega⟩
  have w1:IntKind.i64.wrap (upto-frm)=upto-frm:=wrI (by omega) (by omega)
  have w2:IntKind.i64.wrap (upto-frm+1)=(n:Int):=by rw[wrI (by omega) (by omega)];omega
  have g1 : ¬upto<frm:=by omega
  have g2 : ¬(4000≤upto-frm):=by omega
  have g3:(n:Int)*8≤140737488355328:=by omega
  have hz:(upto-frm+1).toNat=n:=by omega
  have e3:=qzZ T hT j t acc frm upto n (List.replicate n (I 0))
  have e4:=qpj T hT (qyy T hT frm upto j t acc n h1 h2 h3 hnn) hn ho (List.replicate n 0) (by simp)
  have hS:zer frm upto=List.replicate n 0:=by rw[zer,hz]
  rw[hS];have hlen:(qaj (mvE acc (fDa frm upto)) 0 (List.replicate n 0) j).length=n:=ql4 (fun es=>es.length=n) (fun es e x h=>by rw[qqK];exact h) j 0 _ (by simp)
  have hnr : ∀y∈qaj (mvE acc (fDa frm upto)) 0 (List.replicate n 0) j,w64 y=y:=ql4 (fun es=>∀y∈es,w64 y=y) (fun es e x h=>qDh h) j 0 _ (fun y hy=>by rw[(List.mem_replicate.1 hy).2];rfl)
  generalize qaj (mvE acc (fDa frm upto)) 0 (List.replicate n 0) j=fs at *
  have lp:=fun k fr H => @qyz T fs n hlen (by omega) (by omega) hnr k fr H
  have hpl:(qbT 0 fs).length=n:=by rw[qnw,hlen]
  simp[qjr,Fr.ofArgs,e1,e2,w1,w2,g1,g2,g3,qDI,qsg,qyS,e3,↓qnS,↓qq6,qn1,Fr.only];simp only[qfR,List.map_replicate] at e4;refine (congrArg (fun z=>bo z _) e4).trans ?_
  simp[qjc];refine (lp _ _ _ (by simp[gc,Fr.keep,qad,qac,qab,PV.refs,qag,gcH,qaf,Obj.refs,PV.ren,Obj.ren,Heap.obj,Fr.ren,gh,zzd])).trans ?_
  have ht:((qbT 0 fs).map I).take n=(qbT 0 fs).map I:=List.take_of_length_le (by simp[hpl])
  simp[fin,runG,hpl,ht]
 ·have hd:qhR j acc frm upto=[]:=by rw[qhR,if_neg hok]
  rw[hd];simp only[qh9,zzf,zzq] at hok;have w1:qbW frm=true→qbW upto=true→IntKind.i64.wrap (upto-frm)=upto-frm:=by
   intro a b;simp[qbW] at a b;exact wrI (by omega) (by omega)
  obtain⟨a,ha⟩ : ∃a,qbW frm=a:=⟨_,rfl⟩;obtain⟨b,hb⟩ : ∃b,qbW upto=b:=⟨_,rfl⟩;rw[ha] at e1 hok w1;rw[hb] at e2 hok w1;cases a<;>cases b<;>simp only[forall_const,zzg,false_imp_iff] at w1
  all_goals simp[qjr,Fr.ofArgs,e1,e2]
  repeat' (refine qa9 (fun h => ?_) (fun h => ?_)<;>(try simp at h)<;>(try simp[h,w1]))
  all_goals (simp at hok;omega)
def fDR (acc frm:Int) (_:Nat) (es:List Int) (e:AEntry):List Int:=qcc (dOf frm e.Value) (qmA acc e) es
def dly (j:List AEntry) (acc frm upto:Int):List Int:=if qh9 frm upto=true then qaj (fDR acc frm) 0 (zer frm upto) j else []
theorem qs7 {acc frm:Int} : ∀(j:List AEntry) (i:Nat) (es:List Int),(qaj (fDR acc frm) i es j).length=es.length
 | [],_,_=>rfl
 |e::j,i,es=>by rw[qaj,qs7 j];exact qoq _ _ _
theorem qs5 : ∀(l:List Int) (s:Int),∀y∈qbT s l,w64 y=y
 | [],_,y,h=>by simp[qbT] at h
 |x::l,s,y,h=>by
  simp only[qbT,List.mem_cons] at h;rcases h with rfl|h
  ·exact qki _
  ·exact qs5 l _ y h
theorem qqh (acc frm upto:Int) (e:AEntry) (hv:e.Value≤upto) (N:Nat) (hk:dOf frm e.Value<N) : ∀(l:List ALeg) (i:Nat) (es:List Int),es.length=N→qbT 0 (qaj (mvL acc (fDa frm upto) e) i es l)=qcc (dOf frm e.Value) (qaj (qcp acc) i 0 l) (qbT 0 es)
 | [],_,es,h=>by rw[qaj,qaj,qqv _ _ (qs5 _ _)]
 |x::l,i,es,h=>by
  rw[qaj,qaj];by_cases ha:x.Account=acc
  ·have hke:dOf frm e.Value<es.length:=by omega
   have e1:mvL acc (fDa frm upto) e i es x=es.set (dOf frm e.Value) (w64 (es[dOf frm e.Value] + -x.Amount)):=by
    rw[mvL,if_pos ha,fDa,if_pos hv,zze hke];rfl
   have e2:qcp acc i 0 x=w64 (-x.Amount+0):=by
    rw[qcp,if_pos (by simpa using ha)];congr 1;omega
   rw[e1,qqh acc frm upto e hv N hk l (i+1) _ (by simpa using h),quv _ _ _ _ hke,qre,e2,qnp]
   rfl
  ·have e1:mvL acc (fDa frm upto) e i es x=es:=by rw[mvL,if_neg ha]
   have e2:qcp acc i 0 x=0:=by rw[qcp,if_neg (by simpa using ha)]
   rw[e1,qqh acc frm upto e hv N hk l (i+1) _ h,e2]
theorem qw1 (acc frm upto:Int) (N:Nat) (hN:(N:Int)=upto-frm+1) (h0:frm≤upto) (e:AEntry) (i:Nat) (es:List Int) (h:es.length=N):qbT 0 (mvE acc (fDa frm upto) i es e)=fDR acc frm i (qbT 0 es) e:=by
 unfold mvE fDR qmA;by_cases hv:e.Value≤upto
 ·exact qqh acc frm upto e hv N (by unfold dOf;omega) _ _ _ h
 ·have : ∀(l:List ALeg) (i:Nat),qaj (mvL acc (fDa frm upto) e) i es l=es:=by
   intro l;induction l with
   |nil=>intro _;rfl
   |cons x l ih =>
    intro i;have e1:mvL acc (fDa frm upto) e i es x=es:=by
     simp[mvL,fDa,hv]
    rw[qaj,e1,ih]
  rw[this,qru _ _ _ (by rw[qnw,h];unfold dOf;omega)]
theorem qrn (acc frm upto:Int) (N:Nat) (hN:(N:Int)=upto-frm+1) (h0:frm≤upto) : ∀(j:List AEntry) (i:Nat) (es:List Int),es.length=N→qbT 0 (qaj (mvE acc (fDa frm upto)) i es j)=qaj (fDR acc frm) i (qbT 0 es) j
 | [],_,_,_=>rfl
 |e::j,i,es,h=>by
  have hl:(mvE acc (fDa frm upto) i es e).length=N:=ql4 (fun es=>es.length=N) (fun es e x h=>by rw[qqK];exact h) [e] i es h
  rw[qaj,qaj,qrn acc frm upto N hN h0 j (i+1) _ hl,qw1 acc frm upto N hN h0 e i es h]
theorem qAN (j:List AEntry) (acc frm upto:Int):qhR j acc frm upto=dly j acc frm upto:=by
 unfold qhR dly;split
 ·rename_i hok;simp only[qh9,qbW,zzf,zzq] at hok;obtain⟨⟨h1a,h1b⟩,⟨h2a,h2b⟩,h3,h4⟩:=hok;rw[qrn acc frm upto (upto-frm+1).toNat (by omega) h3 j 0 _ (by simp[zer]),zer,qux]
 ·rfl
theorem qCD (j:List AEntry) (acc frm upto:Int):(dly j acc frm upto).length≤4000:=by
 unfold dly;split
 ·rename_i hok;simp only[qh9,qbW,zzf,zzq] at hok;rw[qs7,zer,List.length_replicate];omega
 ·simp
theorem qEx (T:Tab) (hT:HU T) (hV:HV T) (j:List AEntry) (t:Bool) (acc frm upto:Int) (hn:j.length≤maxLen) (ho : ∀e∈j,e.Legs.l.length≤maxLen):T.val 880 [.l (K1 10) (j.map AEntry.dv) t,I acc,I frm,I upto]=some (.d (.l K0 ((dly j acc frm upto).map I) false),true):=by
 rw[qDC T hT hV j t acc frm upto hn ho,qAN]
end Go.Sim
end
section
namespace Go.Sim
set_option maxRecDepth 10000
set_option maxHeartbeats 4000000
theorem qAZ (T:Tab) (hV:HV T) (n:Int):T.val 884 [I n]=some (.d (.a [I 2,I n]),false):=by
 rw[qae T (hV 884 qjQ rfl) rfl];simp[qjQ,Fr.ofArgs,qaD,qaH,qaF,qaC,putAt,mkA,qay]
theorem qwQ (T:Tab) (hV:HV T) (n:Int):T.val 885 [I n]=some (.d (.a [I 1,I n]),false):=by
 rw[qae T (hV 885 qlp rfl) rfl];simp[qlp,Fr.ofArgs,qaD,qaH,qaF,qaC,putAt,mkA,qay]
def wth (n b:Int):Bool:=decide (-b≤n)&&decide (n≤b)
def V2 (p:Int×Int):DV:=.a [I p.1,I p.2]
abbrev MA:Int:=1000000000000
noncomputable def qiq (b:ABooks) (a:AAccount) (id day amount:Int):List Int:=[ofR b.Journal.l id,qgh (dly b.Journal.l id (max (mst day) a.Opened) day),(qh7 b.Journal.l id (mst day) day).1,amount]
noncomputable def qcX (b:ABooks) (id day amount:Int):List (Int×Int)×Int:=match qfu b id with
 |none=>([],11)
 |some a=>if (qbW day&&qjW b id day)=true then (if ((qiq b a id day amount).all fun n=>wth n MA)=true then ((qiq b a id day amount).map (fun n=>(2,n))++[(1,qio b.Journal.l id (mst day) day),(1,w64 (day-a.Opened)),(4,day)],0) else ([],6)) else ([],16)
attribute [local simp ↓ 2000] qwA
theorem qF0 (T:Tab) (a:AAccount) (day amount _frm now low vol cnt:Int) (l:List Int) (hn:l.length≤maxLen) {k:KC (PV×Bool)} {r:Option (PV×Bool)} {fr:Fr} {H:Heap}
  (hr : ∀fr H,fr.get 8 = .d (.l (K1 2) [] true)→fr.get 9 = .d (I 6)→qau fr=[]→k .ret fr H=r)
  (h0:gc [2,3,10,13,14,16,18,103,104,105] 0 ⟨fr,H⟩=⟨[(105,.d (I 0)),(104,.d (I l.length)),(103,.r 0 K0 0 l.length true),(18,.d (I cnt)),(16,.d (I vol)),(14,.d (I low)),(13,.d (I now)),(10,.p 1 0 0),(3,.d (I amount)),(2,.d (I day))],[some (.sl K0 0 (l.map I)),some (.box (K1 7) (.d a.dv))]⟩) :
  kC T.env 0 fr H (.h (.loop [2,3,10,13,14,16,18,103,104,105] qm1,k))=brn (l.all fun n=>wth n MA) (.h (k (.exit 3) [(106,.d (.b false)),(105,.d (I l.length)),(104,.d (I l.length)),(103,.r 0 K0 0 l.length true),(18,.d (I cnt)),(16,.d (I vol)),(14,.d (I low)),(13,.d (I now)),(10,.p 1 0 0),(3,.d (I amount)),(2,.d (I day))] [some (.sl K0 0 (l.map I)),some (.box (K1 7) (.d a.dv))],r)):=by
 have hm:=mxl
 rw[qb1 l (fun i _=>⟨[(105,.d (I i)),(104,.d (I l.length)),(103,.r 0 K0 0 l.length true),(18,.d (I cnt)),(16,.d (I vol)),(14,.d (I low)),(13,.d (I now)),(10,.p 1 0 0),(3,.d (I amount)),(2,.d (I day))],[some (.sl K0 0 (l.map I)),some (.box (K1 7) (.d a.dv))]⟩) (fun _ _=>True) (fun i _ x c=>if wth x MA=true then c () else r) (fun _=>k (.exit 3) [(106,.d (.b false)),(105,.d (I l.length)),(104,.d (I l.length)),(103,.r 0 K0 0 l.length true),(18,.d (I cnt)),(16,.d (I vol)),(14,.d (I low)),(13,.d (I now)),(10,.p 1 0 0),(3,.d (I amount)),(2,.d (I day))] [some (.sl K0 0 (l.map I)),some (.box (K1 7) (.d a.dv))]) ?_ ?_ h0 trivial]
 ·rw[qn8 (fun n=>wth n MA) r]
  ·cases l.all fun n=>wth n MA<;>rfl
  ·exact fun _ _ _ _=>rfl
 ·intro B _ _ _;simp[qm1]
 ·intro B _ i _ hi _ c hc;have h1:(i:Int)<l.length:=by omega
  have h3:=wr1 (i:=i) (by omega)
  have hw:wth l[i] MA=(decide (-1000000000000≤l[i])&&decide (l[i]≤1000000000000)):=rfl
  rw[hw];simp[qm1,h1,hi,↓qgT,↓qgL];repeat' (refine qa9 (fun h => ?_) (fun h => ?_)<;>(try simp at h)<;>(try simp[h,h3]))
  all_goals first
   | (rw[if_neg (by simp;omega)];exact hr _ _ (by simp[Fr.get]) (by simp[Fr.get]) (by simp[qau,gh]))
   | (rw[if_pos (by simp;omega)];exact hc () _ _ trivial (by simp[gc,Fr.keep,qad,qac,qab,PV.refs,PV.refsL,qag,gcH,qaf,Obj.refs,PV.ren,PV.renL,Obj.ren,Heap.obj,Fr.ren,gh,zzd]))
   |exact hr _ _ (by simp[Fr.get]) (by simp[Fr.get]) (by simp[qau,gh])
   |exact hc () _ _ trivial (by simp[gc,Fr.keep,qad,qac,qab,PV.refs,qag,gcH,qaf,Obj.refs,PV.ren,Obj.ren,Heap.obj,Fr.ren,gh,zzd])
theorem qBv (T:Tab) (hU:HU T) (hV:HV T) (b:ABooks) (id day amount:Int) (hb:b.ok):T.val 801 [b.dv,I id,I day,I amount]=some (.t [.d (.l (K1 2) ((qcX b id day amount).1.map V2) (qcX b id day amount).1.isEmpty),.d (I (qcX b id day amount).2)],false):=by
 rw[qae T (hV 801 qg5 rfl) rfl];have e:=qkd T hU b id hb
 have e1:=qnh T hV day
 have e2:=qtz T hV hU b id day hb
 unfold qcX;cases hf:qfu b id with
 |none =>
  rw[hf] at e;simp only[Option.getD_none,Option.isSome_none] at e;simp[qg5,Fr.ofArgs,e,qbe,pur,qbV]
 |some a =>
  rw[hf] at e;simp only[Option.getD_some,Option.isSome_some] at e;obtain⟨v,hv⟩ : ∃v,qbW day=v:=⟨_,rfl⟩;obtain⟨q,hq⟩ : ∃q,qjW b id day=q:=⟨_,rfl⟩;rw[hv] at e1;rw[hq] at e2;simp only[hv,hq];cases v with
  |false=>simp[qg5,Fr.ofArgs,e,e1,qbe,pur,qbV]
  |true =>
   cases q with
   |false=>simp[qg5,Fr.ofArgs,e,e1,e2,qbe,pur,qbV]
   |true =>
    have hj:=(hb.2.2.2.2.2.2.1)
    have ho : ∀e∈b.Journal.l,e.Legs.l.length≤maxLen:=fun e he=>((hj.2 e he).2.2.2.2.2.2.2.2.1).1
    have e3:=qxZ T hV day hv
    have e4:=qzt T hU hV b.Journal.l b.Journal.t id (mst day) day hj.1 ho
    have e5:=qEx T hU hV b.Journal.l b.Journal.t id (max (mst day) a.Opened) day hj.1 ho
    have e6 : ∀x r,dly b.Journal.l id (max (mst day) a.Opened) day=x::r→T.val 881 [.l K0 ((x::r).map I) false]=some (.d (I (qgh (x::r))),false):=fun x r h=>qBV T hV x r false (by have:=qCD b.Journal.l id (max (mst day) a.Opened) day;rw[h] at this;simp at this;have:maxLen=9223372036854775807:=rfl;omega)
    have e7:=qso T hU b.Journal.l b.Journal.t id hj.1 ho
    rw[qr3] at e7;have c1:=fun n=>qAZ T hV n
    have c2:=fun n=>qwQ T hV n
    have lp0:=fun now low vol k fr H => @qFi T hV a b.Journal.l b.Journal.t id (mst day) day amount now low vol hj.1 hj.2 k fr H
    obtain⟨am,ham⟩ : ∃l,qiq b a id day amount=l:=⟨_,rfl⟩;obtain⟨ok,hok⟩ : ∃q,(am.all fun n=>wth n MA)=q:=⟨_,rfl⟩
    have hl:am.length=4:=by rw[←ham];rfl
    have lp:=fun now low vol cnt k r fr H => @qF0 T a day amount (mst day) now low vol cnt am (by rw[hl];decide) k r fr H
    simp only[hok] at lp;simp only[ham,hok];cases hd:dly b.Journal.l id (max (mst day) a.Opened) day with
    |nil =>
     rw[hd] at e5;simp only[List.map_nil] at e5;simp[qg5,Fr.ofArgs,e,e1,e2,e3,e4,e5,e7,↓qfc];refine (lp0 (ofR b.Journal.l id) 0 (qh7 b.Journal.l id (mst day) day).1 _ _ _ (by simp[gc,Fr.keep,qad,qac,qab,PV.refs,qag,gcH,qaf,Obj.refs,PV.ren,Obj.ren,Heap.obj,Fr.ren,gh,zzd])).trans ?_
     simp[qiy,qit,qiC];refine (lp (ofR b.Journal.l id) 0 (qh7 b.Journal.l id (mst day) day).1 (qio b.Journal.l id (mst day) day) _ (some (.t [.d (.l (K1 2) [] true),.d (I 6)],false)) _ _ ?_ ?_).trans ?_
     ·intro fr H h8 h9 hg;simp[h8,h9,hg,qcx,qbe,pur,qbV]
     ·simp[gc,Fr.keep,qad,qac,qab,PV.refs,qag,gcH,qaf,Obj.refs,PV.ren,Obj.ren,Heap.obj,Fr.ren,gh,zzd,←ham,qiq,hd,qgh,qio]
     ·refine qa9 (fun h => ?_) (fun h => ?_)
      ·subst h;simp[↓qa5,↓qa8,↓qaW,↓qaY,qaZ,↓qa1,↓qbi,↓qbg,↓qa2,↓qa3,↓qa7,qaM,writeS,touchS,qam,qax,chg,qaK,qaB,qat,qaE,PV.refs,IOp.okD,Nat.testBit,↓qjC,↓qiI,qal,c1,c2,qaD,qaH,qaF,qaC,putAt,mkA,qay,qiy,qit,qiC,qbe,pur,qbV];simp[←ham,qiq,hd,qgh,V2,w64,qio]
      ·subst h;simp
    |cons x r =>
     have e6':=e6 x r hd
     rw[hd] at e5;simp only[zzu] at e5 e6';have hpos:(0:Int)<(r.length:Int)+1:=by omega
     simp[qg5,Fr.ofArgs,e,e1,e2,e3,e4,e5,e6',e7,↓qfc,hpos];refine (lp0 (ofR b.Journal.l id) (qgh (x::r)) (qh7 b.Journal.l id (mst day) day).1 _ _ _ (by simp[gc,Fr.keep,qad,qac,qab,PV.refs,qag,gcH,qaf,Obj.refs,PV.ren,Obj.ren,Heap.obj,Fr.ren,gh,zzd])).trans ?_
     simp[qiy,qit,qiC];refine (lp (ofR b.Journal.l id) (qgh (x::r)) (qh7 b.Journal.l id (mst day) day).1 (qio b.Journal.l id (mst day) day) _ (some (.t [.d (.l (K1 2) [] true),.d (I 6)],false)) _ _ ?_ ?_).trans ?_
     ·intro fr H h8 h9 hg;simp[h8,h9,hg,qcx,qbe,pur,qbV]
     ·simp[gc,Fr.keep,qad,qac,qab,PV.refs,qag,gcH,qaf,Obj.refs,PV.ren,Obj.ren,Heap.obj,Fr.ren,gh,zzd,←ham,qiq,hd,qgh,qio]
     ·refine qa9 (fun h => ?_) (fun h => ?_)
      ·subst h;simp[↓qa5,↓qa8,↓qaW,↓qaY,qaZ,↓qa1,↓qbi,↓qbg,↓qa2,↓qa3,↓qa7,qaM,writeS,touchS,qam,qax,chg,qaK,qaB,qat,qaE,PV.refs,IOp.okD,Nat.testBit,↓qjC,↓qiI,qal,c1,c2,qaD,qaH,qaF,qaC,putAt,mkA,qay,qiy,qit,qiC,qbe,pur,qbV];simp[←ham,qiq,hd,qgh,V2,w64,qio]
      ·subst h;simp
end Go.Sim
end
section
namespace Go.Sim
set_option maxRecDepth 10000
set_option maxHeartbeats 4000000
end Go.Sim
end
section
namespace Go.Sim
set_option maxRecDepth 10000
set_option maxHeartbeats 4000000
theorem quK (id frm upto:Int) : ∀(l:List AEntry) (i:Nat) (n:Int),(-9223372036854775808≤n∧n<9223372036854775808)→-9223372036854775808≤qaj (qgc id frm upto) i n l∧qaj (qgc id frm upto) i n l<9223372036854775808
 | [],_,_,h=>h
 |x::l,i,n,h=>by
  rw[qaj];refine quK id frm upto l (i+1) _ ?_;unfold qgc;split
  ·exact qko _
  ·exact h
theorem qxE (b:ABooks) (id day amount:Int) : ∀p∈(qcX b id day amount).1,-9223372036854775808≤p.2∧p.2<9223372036854775808:=by
 intro p hp;unfold qcX at hp;split at hp
 ·cases hp
 ·split at hp
  ·split at hp
   ·rename_i a _ hv ha;simp only[List.mem_append,List.mem_map,List.mem_cons,List.not_mem_nil,or_false] at hp;rcases hp with ⟨n,hn,rfl⟩|rfl|rfl|rfl
    ·have:=List.all_eq_true.1 ha n hn
     simp only[wth,MA,zzf,zzq] at this;simp only;omega
    ·exact quK id _ _ _ 0 0 (by decide)
    ·exact qko _
    ·have:0≤day∧day≤73048:=by
      simp only[zzf] at hv
      have:=hv.1
      unfold qbW at this;simp only[zzf,zzq] at this;omega
     simp only;omega
   ·cases hp
  ·cases hp
theorem qBo {b:ABooks} {id day amount:Int} (h:(qcX b id day amount).2=0):qbW day=true:=by
 unfold qcX at h;split at h
 ·cases h
 ·split at h
  ·rename_i hv;simp only[zzf] at hv;exact hv.1
  ·cases h
theorem qy0 {l:List AProduct} {nm:List UInt8} {day:Int} {p:AProduct} (h:atP l nm day=some p):p∈l:=by
 unfold atP at h;split at h
 ·cases h
 ·exact List.mem_of_getElem? h
structure HEv (T:Tab):Prop where
 hT:HT T
 hU:HU T
 hV:HV T
 hC:HC T
 hW:HWd T
 hA:HA T
 vars : ∃(vs:List AVar) (t o:Bool),T.val 371 []=some (.d (.l (K1 2) (vs.map AVar.dv) t),o)∧vs.length≤1000∧T.val 945 [.l (K1 2) (vs.map AVar.dv) t]=some (.d (I 0),false)
theorem qCT (T:Tab) (h:HEv T) (x:AExpr) (hx:x.ok) (b:ABooks) (id day amount:Int) (te:Bool) : ∃(V:DV) (o:Bool) (q:AValue×Int),T.val 371 []=some (.d V,o)∧T.val 916 [x.dv,V,.l (K1 2) ((qcX b id day amount).1.map V2) te]=some (qbP q):=by
 obtain⟨vs,t,o,e1,hn,e2⟩:=h.vars;have hm:(qcX b id day amount).1.map V2=((qcX b id day amount).1.map fun p=>(⟨p.1,p.2⟩:AValue)).map AValue.dv:=by rw[List.map_map];rfl
 obtain⟨q,hq⟩:=qBA T h.hT h.hA (qEe T h.hT h.hC h.hW) vs ((qcX b id day amount).1.map fun p=>(⟨p.1,p.2⟩:AValue)) t te hn (fun e he=>by
  obtain⟨p,hp,rfl⟩:=List.mem_map.1 he;exact qxE b id day amount p hp) e2 x hx
 exact⟨_,o,q,e1,by rw[hm];exact hq⟩
end Go.Sim
end
end
section
namespace Go.Sim
def tabF25:PT :=
 (.bin 917 qhj (.bin 768 qiK (.bin 674 qhu .nil .nil) (.bin 858 qh5 .nil .nil)) (.bin 1087 qg8 (.bin 948 qj5 .nil .nil) .nil))
def HF5 (T:Tab):Prop:=∀n F,tabF25.get n=some F→T.F n=some F
end Go.Sim
end
section
namespace Go.Sim
def tabQ:PT :=
 (.bin 855 qlf (.bin 767 qkK (.bin 724 qnx (.bin 674 qhu .nil .nil) .nil) (.bin 768 qiK .nil .nil)) (.bin 857 qgU (.bin 856 qkn .nil .nil) (.bin 917 qhj .nil .nil)))
abbrev HQ (T:Tab):Prop:=∀n F,tabQ.get n=some F→T.F n=some F
end Go.Sim
end
section
open Go.Sim
attribute [local simp ↓] qeK qda qe3 qej qd4 qd3 qeP qde sqK blK lpK qdp qd1 qdh qdS qe4 qd6 qdV qd8 qdt qe0 qdc qdw qem qdH qes qer qdf qeD qea qeq qd2 qdU qeZ qdn qeL qeG qep qdi qc7 qeS qd7 qe5 qc9 qd9 qex qek qd5 qco qcE qdC qdX qdM qcV qdN qc8 qcU qeA qdr qds qec qei qc4 qeO qc5 qeV qdk qef qed qeH qdW qdy qdb qdZ qe1 qeE qc0 qcY qet qcZ qcx qdu qcQ qcW qdx qcs qeU qeC qev qd0 qeX qeg qdQ qeu qdv qdJ qdK qeJ qeR qdY qeI qfo qfH qfA qfV qfE qfS qfC qfD qfx qfO qfP qfJ qgB qfc
attribute [local simp] qcA qdm qdI qeo qey qdq qdG qdF qdL qeb qdB rd IOp.adds qap gh nid rgK rdS qeF qdO qeB qee qdR qdP qe7 qdE qeN qew qeY qeT qeh qeM qeQ qe6 qez qdz qe2 qel qdo qfl qfs qfm qfa qft qfd qfr qfG qfW qfB qfF
section
namespace Go.Sim
set_option maxRecDepth 10000
set_option maxHeartbeats 4000000
def qlt (n:Int) (x:ABlock):Bool:=if x.Kind=1 then true else if x.Kind=2 then decide (0<n) else if x.Kind=3 then decide (n<0) else false
theorem qBw (T:Tab) (hU:HU T) (hQ:HQ T) (x:ABlock) (n:Int):T.val 857 [x.dv,I n]=some (.d (.b (qlt n x)),false):=by
 rw[qae T (hQ 857 qgU rfl) rfl];have e:=quO T hU x
 unfold qkC at e;unfold qlt;by_cases h1:x.Kind=1
 ·rw[if_pos h1] at e;simp[qgU,Fr.ofArgs,e,h1]
 ·rw[if_neg h1] at e;by_cases h2:x.Kind=2
  ·rw[if_pos h2] at e;simp[qgU,Fr.ofArgs,e,h2]
  ·rw[if_neg h2] at e;by_cases h3:x.Kind=3
   ·rw[if_pos h3] at e;simp[qgU,Fr.ofArgs,e,h3]
   ·rw[if_neg h3] at e;by_cases h4:x.Kind=4
    ·rw[if_pos h4] at e;simp[qgU,Fr.ofArgs,e,h1,h2,h3]
    ·rw[if_neg h4] at e;simp[qgU,Fr.ofArgs,e,h1,h2,h3]
theorem qAc (T:Tab) (hU:HU T) (hQ:HQ T) (x:ABlock) (n:Int):T.ref 856 [.d x.dv,.p 0 0 0] [some (.box K0 (.d (I n)))]=some (.d (.b (qlt n x)),[some (.box K0 (.d (I n)))]):=by
 rw[qcz T (hQ 856 qkn rfl) rfl];have hH:Cl [some (.box K0 (.d (I n)))]:=fun r h=>by simp[qab,qaf,Obj.refs,PV.refs] at h
 have e:=qBw T hU hQ x n
 simp[qkn,Fr.ofArgs,e,qb2];exact (qgd hH [some (.box (K1 7) (.d x.dv))] _)
theorem qD8 {α:Type} (T:Tab) (hQ:HQ T) (g:Nat) (dv:α→DV) (p:α→Bool) (c:PV) (cs:List PV) (H0:Heap) (hH:Cl H0) (hc : ∀r∈PV.refsL (c::cs),r<H0.length) (l:List α) (hv : ∀x∈l,T.ref g (.d (dv x)::c::cs) H0=some (.d (.b (p x)),H0)) (s:Bool) (hn:l.length≤maxLen) :
  T.ref 855 [.d (.l (K1 7) (l.map dv) s),.f g (c::cs)] H0=some (.d (.b (l.any p)),H0):=by
 rw[qcz T (hQ 855 qlf rfl) rfl];have e:=qlO T (hQ 724 qnx rfl) g dv p c cs H0 hH hc l hv s hn
 have e2:=qoj p l
 simp[qlf,Fr.ofArgs,e,e2,qb2,qlu hH]
def qpf (l:List ABlock) (acc day n:Int):Bool:=(l.filter (qb6 acc day)).any (qlt n)
theorem qC1 (T:Tab) (hU:HU T) (hQ:HQ T) (l:List ABlock) (t:Bool) (acc day n:Int) (hn:l.length≤100000):T.val 767 [.l (K1 7) (l.map ABlock.dv) t,I acc,I day,I n]=some (.d (.b (qpf l acc day n)),false):=by
 rw[qae T (hQ 767 qkK rfl) rfl];have e:=qrZ T hU l t acc day hn
 have hl:(l.filter (qb6 acc day)).length≤maxLen:=by
  have h1:=List.length_filter_le (qb6 acc day) l
  have h2:maxLen=9223372036854775807:=rfl
  omega
 have hH:Cl [some (.box K0 (.d (I n)))]:=fun r h=>by simp[qab,qaf,Obj.refs,PV.refs] at h
 have e1:=qD8 T hQ 856 ABlock.dv (qlt n) (.p 0 0 0) [] [some (.box K0 (.d (I n)))] hH (by simp[PV.refs,PV.refsL]) (l.filter (qb6 acc day)) (fun a _=>qAc T hU hQ a n) false hl
 simp[qkK,Fr.ofArgs,e,e1,qpf]
end Go.Sim
end
end
section
namespace Go.Sim
theorem qvv : ∀x:List UInt8,Op.bytesLess x x=false
 | []=>rfl
 |a::x=>by simp[Op.bytesLess,qvv x]
theorem qsy : ∀{x y z:List UInt8},Op.bytesLess x y=true→Op.bytesLess y z=true→Op.bytesLess x z=true
 | _,[],_,h,_=>by cases ‹List UInt8› <;> simp[Op.bytesLess] at h
 | _,_::_,[],_,h=>by simp[Op.bytesLess] at h
 | [],_::_,_::_,_,_=>rfl
 |a::x,b::y,c::z,h,k=>by
  simp only[Op.bytesLess,Bool.or_eq_true,zzf,zzq,beq_iff_eq] at h k⊢;rcases h with h|⟨rfl,h⟩
  ·rcases k with k|⟨rfl,k⟩
   ·exact .inl (UInt8.lt_trans h k)
   ·exact .inl h
  ·rcases k with k|⟨rfl,k⟩
   ·exact .inl k
   ·exact .inr ⟨rfl,qsy h k⟩
theorem qnO : ∀{x y:List UInt8},Op.bytesLess x y=false→Op.bytesLess y x=false→x=y
 | [],[],_,_=>rfl
 | [],_::_,h,_=>by simp[Op.bytesLess] at h
 | _::_,[],_,h=>by simp[Op.bytesLess] at h
 |a::x,b::y,h,k=>by
  simp only[Op.bytesLess,Bool.or_eq_false_iff,Bool.and_eq_false_iff,decide_eq_false_iff_not,beq_eq_false_iff_ne] at h k;have e:a=b:=UInt8.le_antisymm (UInt8.not_lt.1 k.1) (UInt8.not_lt.1 h.1)
  subst e;have h2:=h.2
  have k2:=k.2
  simp only[ne_eq,not_true_eq_false,false_or] at h2 k2;rw[qnO h2 k2]
def ltL (a b:ALeg):Bool:=decide (a.Account<b.Account)||((a.Account==b.Account)&&Op.bytesLess a.Currency b.Currency)
def qoE (a b:ALeg):Prop:=a.Account=b.Account∧a.Currency=b.Currency
theorem qD4 {a b:ALeg}:ltL a b=true↔a.Account<b.Account∨(a.Account=b.Account∧Op.bytesLess a.Currency b.Currency=true):=by simp[ltL]
theorem qut {a b c:ALeg} (h:ltL a b=true) (k:ltL b c=true):ltL a c=true:=by
 rw[qD4] at *
 rcases h with h|⟨h1,h2⟩
 ·rcases k with k|⟨k1,k2⟩<;>exact .inl (by omega)
 ·rcases k with k|⟨k1,k2⟩
  ·exact .inl (by omega)
  ·exact .inr ⟨by omega,qsy h2 k2⟩
theorem qx0 {a b:ALeg} (h:ltL a b=false) (k:ltL b a=false):qoE a b:=by
 simp only[ltL,Bool.or_eq_false_iff,decide_eq_false_iff_not,Bool.and_eq_false_iff,beq_eq_false_iff_ne] at h k;have e:a.Account=b.Account:=by omega
 refine⟨e,qnO ?_ ?_⟩
 ·rcases h.2 with h|h
  ·exact absurd e h
  ·exact h
 ·rcases k.2 with k|k
  ·exact absurd e.symm k
  ·exact k
theorem qEs {a b c:ALeg} (h:qoE a b):ltL c a=ltL c b:=by simp[ltL,h.1,h.2]
def qok (y x:ALeg):ALeg:=⟨y.Account,w64 (y.Amount+x.Amount),y.Currency⟩
def qbR:List ALeg→ALeg→List ALeg
 | [],x=>[x]
 |y::r,x=>if ltL y x=true then y::qbR r x else if ltL x y=true then x::y::r else qok y x::r
abbrev Srt (l:List ALeg):Prop:=l.Pairwise fun a b=>ltL a b=true
theorem qtg : ∀{l:List ALeg} {x y:ALeg},y∈qbR l x→y∈l∨qoE y x
 | [],x,y,h=>by simp[qbR] at h;subst h;exact .inr ⟨rfl,rfl⟩
 |z::r,x,y,h=>by
  unfold qbR at h;split at h
  ·rcases List.mem_cons.1 h with rfl|h
   ·exact .inl (zzr ..)
   ·rcases qtg h with h|h
    ·exact .inl (zzi _ h)
    ·exact .inr h
  ·split at h
   ·rcases List.mem_cons.1 h with rfl|h
    ·exact .inr ⟨rfl,rfl⟩
    ·exact .inl h
   ·rename_i h1 h2;rcases List.mem_cons.1 h with rfl|h
    ·have k:=qx0 (by simpa using h1) (by simpa using h2)
     exact .inr k
    ·exact .inl (zzi _ h)
theorem qrI : ∀{l:List ALeg} (x:ALeg),Srt l→Srt (qbR l x)
 | [],x,_=>by simp[qbR,Srt]
 |z::r,x,h=>by
  have h':=List.pairwise_cons.1 h
  unfold qbR;split
  ·rename_i hz;refine List.pairwise_cons.2 ⟨fun y hy => ?_,qrI x h'.2⟩
   rcases qtg hy with hy|hy
   ·exact h'.1 y hy
   ·rw[qEs hy];exact hz
  ·split
   ·rename_i hz;refine List.pairwise_cons.2 ⟨fun y hy => ?_,h⟩
    rcases List.mem_cons.1 hy with rfl|hy
    ·exact hz
    ·exact qut hz (h'.1 y hy)
   ·exact List.pairwise_cons.2 ⟨fun y hy=>(h'.1 y hy),h'.2⟩
theorem qoy : ∀(l:List ALeg) (x:ALeg),(qbR l x).length≤l.length+1
 | [],x=>by simp[qbR]
 |z::r,x=>by
  unfold qbR
  have:=qoy r x
  split
  ·simp;omega
  ·split<;>simp
theorem qvg (l:List ALeg) (x:ALeg):qbR l x≠[]:=by
 cases l with
 |nil=>simp[qbR]
 |cons z r=>unfold qbR;split<;>(try split)<;>simp
def plc (l:List ALeg) (x:ALeg):Nat:=(l.takeWhile fun y=>ltL y x).length
theorem qrg : ∀(l:List ALeg) (x:ALeg),(∀h:plc l x<l.length,ltL x l[plc l x]=true)→qbR l x=l.take (plc l x)++x::l.drop (plc l x)
 | [],x,_=>rfl
 |z::r,x,h=>by
  unfold qbR;by_cases hz:ltL z x=true
  ·have e:plc (z::r) x=plc r x+1:=by simp[plc,hz]
   simp only[e] at h⊢;rw[if_pos hz,qrg r x (fun hk=>by simpa using h (by simpa using hk))]
   rfl
  ·have e:plc (z::r) x=0:=by simp[plc,hz]
   simp only[e] at h⊢;rw[if_neg hz,if_pos (by simpa using h (by simp))]
   rfl
theorem qr2 : ∀(l:List ALeg) (x:ALeg) (h:plc l x<l.length),ltL x l[plc l x]=false→qbR l x=l.set (plc l x) (qok l[plc l x] x)
 | [],x,h,_=>by simp at h
 |z::r,x,h,hn=>by
  unfold qbR;by_cases hz:ltL z x=true
  ·have e:plc (z::r) x=plc r x+1:=by simp[plc,hz]
   simp only[e] at h hn⊢;rw[if_pos hz,qr2 r x (by simpa using h) (by simpa using hn)]
   simp
  ·have e:plc (z::r) x=0:=by simp[plc,hz]
   simp only[e] at h hn⊢;rw[if_neg hz,if_neg (by simpa using hn)]
   simp
theorem qro (l:List ALeg) (x:ALeg):plc l x≤l.length:=(List.takeWhile_sublist _).length_le
theorem qvp : ∀(l:List ALeg) (x:ALeg) (j:Nat) (h:j<l.length),j<plc l x→ltL l[j] x=true
 | [],x,j,h,_=>by simp at h
 |z::r,x,j,h,hj=>by
  by_cases hz:ltL z x=true
  ·have e:plc (z::r) x=plc r x+1:=by simp[plc,hz]
   cases j with
   |zero=>exact hz
   |succ j=>simp only[List.getElem_cons_succ];exact qvp r x j _ (by omega)
  ·have e:plc (z::r) x=0:=by simp[plc,hz]
   omega
theorem qqE : ∀(l:List ALeg) (x:ALeg) (h:plc l x<l.length),ltL l[plc l x] x=false
 | [],x,h=>by simp at h
 |z::r,x,h=>by
  by_cases hz:ltL z x=true
  ·have e:plc (z::r) x=plc r x+1:=by simp[plc,hz]
   simp only[e] at h⊢;simp only[List.getElem_cons_succ];exact qqE r x (by simpa using h)
  ·have e:plc (z::r) x=0:=by simp[plc,hz]
   simp only[e];simpa using hz
theorem qFl {l:List ALeg} (hs:Srt l) (x:ALeg) (j:Nat) (h:j<l.length) (hj:plc l x≤j):ltL l[j] x=false:=by
 have h0:=qqE l x (by omega)
 by_cases e:plc l x=j
 ·simp only[e] at h0;exact h0
 ·have:=List.pairwise_iff_getElem.1 hs (plc l x) j (by omega) h (by omega)
  cases hl:ltL l[j] x with
  |false=>rfl
  |true=>rw[qut this hl] at h0;cases h0
def qg9 (l:List ALeg):List ALeg:=(l.foldl qbR []).filter fun x=>x.Amount != 0
theorem qpV : ∀(l a:List ALeg),(l.foldl qbR a).length≤a.length+l.length
 | [],a=>by simp
 |x::l,a=>by
  have:=qpV l (qbR a x)
  have:=qoy a x
  simp only[List.foldl_cons,zzn];omega
end Go.Sim
end
section
namespace Go.Sim
def tabN:PT :=
 (.bin 265 qiu (.bin 181 qkz (.bin 179 qjP (.bin 110 qj0 .nil .nil) (.bin 180 qjq .nil .nil)) (.bin 263 qlr (.bin 262 qih .nil .nil) .nil)) (.bin 342 qll (.bin 341 qkA (.bin 268 qkT .nil .nil) .nil) (.bin 382 qkf (.bin 344 qlw .nil .nil) .nil)))
abbrev HN (T:Tab):Prop:=∀n F,tabN.get n=some F→T.F n=some F
end Go.Sim
end
section
open Go.Sim
attribute [local simp ↓] qeK qda qe3 qej qd4 qd3 qeP qde sqK blK lpK qdp qd1 qdh qdS qe4 qd6 qdV qd8 qdt qe0 qdc qdw qem qdH qes qer qdf qeD qea qeq qd2 qdU qeZ qdn qeL qeG qep qdi qc7 qeS qd7 qe5 qc9 qd9 qex qek qd5 qco qcE qdC qdX qdM qcV qdN qc8 qcU qeA qdr qds qec qei qc4 qeO qc5 qeV qdk qef qed qeH qdW qdy qdb qdZ qe1 qeE qc0 qcY qet qcZ qcx qdu qcQ qcW qdx qcs qeU qeC qev qd0 qeX qeg qdQ qeu qdv qdJ qdK qeJ qeR qdY qeI qfo qfH qfA qfV qfE qfS qfC qfD qfx qfO qfP qfJ qgB qfc
attribute [local simp] qcA qdm qdI qeo qey qdq qdG qdF qdL qeb qdB rd IOp.adds qap gh nid rgK rdS qeF qdO qeB qee qdR qdP qe7 qdE qeN qew qeY qeT qeh qeM qeQ qe6 qez qdz qe2 qel qdo qfl qfs qfm qfa qft qfd qfr qfG qfW qfB qfF
section
namespace Go.Sim
set_option maxRecDepth 10000
set_option maxHeartbeats 4000000
def qhi (a b:Int):Int:=if a<b then -1 else if b<a then 1 else 0
def qh1 (a b:List UInt8):Int:=if Op.bytesLess a b=true then -1 else if Op.bytesLess b a=true then 1 else 0
def cmL (a b:ALeg):Int:=if qhi a.Account b.Account=0 then qh1 a.Currency b.Currency else qhi a.Account b.Account
theorem qyk (a b:ALeg):decide (cmL a b<0)=ltL a b:=by
 unfold cmL qhi qh1 ltL;by_cases h1:a.Account<b.Account
 ·simp[h1]
 ·by_cases h2:b.Account<a.Account
  ·have : ¬a.Account=b.Account:=by omega
   simp[h1,h2,this]
  ·have e:a.Account=b.Account:=by omega
   simp only[e,Int.lt_irrefl,if_false,if_true,decide_false,beq_self_eq_true,Bool.true_and,Bool.false_or];cases Op.bytesLess a.Currency b.Currency<;>cases Op.bytesLess b.Currency a.Currency<;>simp
theorem qDt (a b:ALeg) (h:ltL a b=false):(cmL a b==0) = !ltL b a:=by
 unfold cmL qhi qh1;unfold ltL at h⊢;by_cases h1:a.Account<b.Account
 ·simp[h1] at h
 ·by_cases h2:b.Account<a.Account
  ·simp[h1,h2]
  ·have e:a.Account=b.Account:=by omega
   simp only[e,Int.lt_irrefl,if_false,if_true,decide_false,beq_self_eq_true,Bool.true_and,Bool.false_or] at h⊢;rw[h];cases Op.bytesLess b.Currency a.Currency<;>simp
theorem qub (T:Tab) (hN:HN T) (x:Int):T.val 382 [I x]=some (.d (.b false),false):=by
 rw[qae T (hN 382 qkf rfl) rfl];simp[qkf,Fr.ofArgs,bne]
theorem qsp (T:Tab) (hN:HN T) (x:List UInt8):T.val 344 [.s x]=some (.d (.b false),false):=by
 rw[qae T (hN 344 qlw rfl) rfl];simp[qlw,Fr.ofArgs]
theorem qDf (T:Tab) (hN:HN T) (x y:Int):T.val 342 [I x,I y]=some (.d (I (qhi x y)),false):=by
 rw[qae T (hN 342 qll rfl) rfl];have e1:=qub T hN x
 have e2:=qub T hN y
 unfold qhi;simp[qll,Fr.ofArgs,e1,e2];repeat' (refine qa9 (fun h => ?_) (fun h => ?_)<;>(try simp at h)<;>(try simp[h]))
 all_goals first|omega|simp_all
 all_goals omega
theorem qr1 {R:Type} (a b:List UInt8) {d:DV→Option R}:bo (qaQ .lss (.d (.s a)) (.d (.s b))) (.h d)=d (.b (Op.bytesLess a b)):=rfl
theorem quc {R:Type} (a b:List UInt8) {d:DV→Option R}:bo (qaQ .gtr (.d (.s a)) (.d (.s b))) (.h d)=d (.b (!(Op.bytesLess a b||a==b))):=rfl
theorem qx4 (a b:List UInt8) (h:Op.bytesLess a b=false):(!(Op.bytesLess a b||a==b))=Op.bytesLess b a:=by
 rw[h,Bool.false_or];cases hb:Op.bytesLess b a with
 |true =>
  have:a≠b:=by intro e;subst e;rw[qvv] at hb;cases hb
  simpa using this
 |false=>simp[qnO h hb]
theorem qD1 (T:Tab) (hN:HN T) (x y:List UInt8):T.val 268 [.s x,.s y]=some (.d (I (qh1 x y)),false):=by
 rw[qae T (hN 268 qkT rfl) rfl];have e1:=qsp T hN x
 have e2:=qsp T hN y
 unfold qh1;simp[qkT,Fr.ofArgs,e1,e2,↓qr1];refine qa9 (fun h => ?_) (fun h => ?_)
 ·simp[h]
 ·have g:=qx4 x y h
  rw[h] at g;simp[h,↓quc];refine qa9 (fun h2 => ?_) (fun h2 => ?_)
  ·rw[h2] at g;simp;exact g.symm
  ·rw[h2] at g;simp;exact g.symm
def orL:List Int→Int
 | []=>0
 |x::r=>if x=0 then orL r else x
theorem qwZ (T:Tab) (l:List Int) (t:Bool) (hn:l.length≤maxLen) {k:KC (PV×Bool)} {r:Int→Option (PV×Bool)} {fr:Fr} {H:Heap}
  (hr : ∀fr x,fr.get 2 = .d (I x)→qau fr=[]→k .ret fr []=r x)
  (h0:gc [3,6,7,8] 0 ⟨fr,H⟩=⟨[(8,.d (I 0)),(7,.d (I l.length)),(6,.d (.l K0 (l.map I) t)),(3,.d (I 0))],[]⟩)
  (he:k (.exit 0) [(9,.d (.b false)),(8,.d (I l.length)),(7,.d (I l.length)),(6,.d (.l K0 (l.map I) t)),(3,.d (I 0))] []=r 0) :
  kC T.env 0 fr H (.h (.loop [3,6,7,8] qla,k))=r (orL l):=by
 have hm:=mxl
 rw[qb1 l (fun i _=>⟨[(8,.d (I i)),(7,.d (I l.length)),(6,.d (.l K0 (l.map I) t)),(3,.d (I 0))],[]⟩) (fun _ _=>True) (fun i _ x c=>if x=0 then c () else r x) (fun _=>r 0) ?_ ?_ h0 trivial]
 ·have : ∀(l:List Int) (i:Nat),qck (fun i (_:Unit) x c=>if x=0 then c () else r x) (fun _=>r 0) i () l=r (orL l):=by
   intro l;induction l with
   |nil=>intro i;rfl
   |cons x l ih =>
    intro i;rw[qck,orL];split
    ·exact ih (i+1)
    ·rfl
  exact this l 0
 ·intro B _ _ _;rw[←he];simp[qla]
 ·intro B _ i _ hi _ c hc;have h1:(i:Int)<l.length:=by omega
  have h3:=wr1 (i:=i) (by omega)
  by_cases hz:l[i]=0
  ·rw[if_pos hz];simp[qla,h1,hi,h3,hz,bne];exact hc () _ _ trivial (by simp[gc,Fr.keep,qad,qac,qab,PV.refs,gcH,PV.ren,Obj.ren,Heap.obj,Fr.ren,gh])
  ·rw[if_neg hz];have hz':(l[i]==0)=false:=by simpa using hz
   simp[qla,h1,hi,hz',bne];exact hr _ _ (by simp[Fr.get]) (by simp[qau,gh])
theorem qD7 (T:Tab) (hN:HN T) (l:List Int) (t:Bool) (hn:l.length≤maxLen):T.val 341 [.l K0 (l.map I) t]=some (.d (I (orL l)),false):=by
 rw[qae T (hN 341 qkA rfl) rfl];have lp:=fun k r fr H => @qwZ T l t hn k r fr H
 simp[qkA,Fr.ofArgs];refine lp _ (fun x=>some (.d (I x),false)) _ _ ?_ (by simp[gc,Fr.keep,qad,qac,qab,PV.refs,gcH,PV.ren,Obj.ren,Heap.obj,Fr.ren,gh]) ?_
 ·intro fr x h hg;simp[h,hg,qcx]
 ·simp
theorem qth (T:Tab) (hN:HN T) (a b:ALeg):T.val 263 [a.dv,b.dv]=some (.d (I (cmL a b)),false):=by
 rw[qae T (hN 263 qlr rfl) rfl];have e1:=qDf T hN a.Account b.Account
 have e2:=qD1 T hN a.Currency b.Currency
 have e3:=qD7 T hN [qhi a.Account b.Account,qh1 a.Currency b.Currency] false (by show 2≤maxLen;decide)
 have e4:orL [qhi a.Account b.Account,qh1 a.Currency b.Currency]=cmL a b:=by
  simp only[orL,cmL];split
  ·split
   ·rename_i h;rw[h]
   ·rfl
  ·rfl
 rw[e4] at e3;simp only[zzu,List.map_nil] at e3;simp[qlr,Fr.ofArgs,e1,e2,e3,↓qa5,↓qa8,↓qaW,↓qaY,qaZ,↓qa1,↓qbg,↓qa2,↓qa7,↓qby,qaM,writeS,touchS,qam,qax,chg,qaK,qaB,qat,qaE,PV.refs,IOp.okD,Nat.testBit,qiy,qit,qiC,qbe,pur,qbV]
end Go.Sim
end
section
namespace Go.Sim
set_option maxRecDepth 10000
set_option maxHeartbeats 4000000
theorem qxM (T:Tab) (hN:HN T) (l:List ALeg) (hs:Srt l) (x:ALeg) (w:DV) (t:Bool) (hn:l.length<1000000) {k:KC (PV×Heap)} {r:Option (PV×Heap)}
  (he : ∀b,k (.exit 0) [(17,.d (.b b)),(10,.d (I (plc l x))),(9,.d (I (plc l x))),(8,.d (I l.length)),(4,.p 2 0 0),(2,.f 263 []),(0,.r 0 (K1 3) 0 l.length t)] [some (.sl (K1 3) 0 (l.map ALeg.dv)),some (.box (K1 3) (.d w)),some (.box (K1 3) (.d x.dv))]=r)
  (lo hi:Nat) (h1:lo≤plc l x) (h2:plc l x≤hi) (h3:hi≤l.length) {fr:Fr} {H:Heap}
  (h0:gc [0,2,4,8,9,10] 2 ⟨fr,H⟩=⟨[(10,.d (I hi)),(9,.d (I lo)),(8,.d (I l.length)),(4,.p 2 0 0),(2,.f 263 []),(0,.r 0 (K1 3) 0 l.length t)],[some (.sl (K1 3) 0 (l.map ALeg.dv)),some (.box (K1 3) (.d w)),some (.box (K1 3) (.d x.dv))]⟩) :
  kC T.env 2 fr H (.h (.loop [0,2,4,8,9,10] qlq,k))=r:=by
 refine qfT (fun s:Nat×Nat=>⟨[(10,.d (I s.2)),(9,.d (I s.1)),(8,.d (I l.length)),(4,.p 2 0 0),(2,.f 263 []),(0,.r 0 (K1 3) 0 l.length t)],[some (.sl (K1 3) 0 (l.map ALeg.dv)),some (.box (K1 3) (.d w)),some (.box (K1 3) (.d x.dv))]⟩) (fun s=>s.1≤plc l x∧plc l x≤s.2∧s.2≤l.length) (fun s=>s.2-s.1) ?_ (lo,hi) ⟨h1,h2,h3⟩ h0
 rintro B-⟨a,b⟩ ⟨ha,hb,hc⟩ hx;simp only at ha hb hc hx⊢;have hx':=fun (s':Nat×Nat)=>hx s'
 clear hx
 by_cases hab:a<b
 ·obtain⟨m,hm⟩ : ∃m,(a+b)/2=m:=⟨_,rfl⟩;have g1:((a:Int)<b):=by omega
  have g2:m<l.length:=by omega
  have g3:(m:Int)<l.length:=by omega
  have w1:IntKind.i64.wrap ((a:Int)+b)=((a+b:Nat):Int):=by rw[wrI (by omega) (by omega)];omega
  have w2:IntKind.u64.wrap ((a+b:Nat):Int)=((a+b:Nat):Int):=wrU (by omega) (by omega)
  have w3:Int.fdiv ((a+b:Nat):Int) (2^min 1 IntKind.u64.bits)=(((a+b)/2:Nat):Int):=qEm (a+b)
  rw[hm] at w3;have w4:IntKind.i64.wrap (m:Int)=m:=wrI (by omega) (by omega)
  have w5:IntKind.i64.wrap ((m:Int)+1)=(m:Int)+1:=wrI (by omega) (by omega)
  obtain⟨z,hz⟩ : ∃z:Int,((a+b:Nat):Int)=z:=⟨_,rfl⟩;rw[hz] at w1 w2 w3;have e:=qth T hN l[m] x
  have e2:=qyk l[m] x
  simp[qlq,↓qa5,↓qa8,↓qaW,↓qaY,qaZ,↓qa1,↓qa2,↓qa3,↓qbf,qaM,writeS,touchS,qam,qax,chg,qaK,qaB,qat,qaE,PV.refs,IOp.okD,Nat.testBit,g1,g2,g3,w1,w2,w3,w4,↓qaX,↓qbQ,↓qCn,↓qgT,↓qgL,↓qjC,↓qiI,qal,e,e2];refine qa9 (fun h => ?_) (fun h => ?_)
  ·have hlt:m<plc l x:=by
    by_cases hh:m<plc l x
    ·exact hh
    ·rw[qFl hs x m g2 (by omega)] at h;cases h
   simp[w4,w5];refine hx' (m+1,b) ⟨by omega,by omega,by omega⟩ (by simp only;omega) _ _ ?_
   simp[gc,Fr.keep,qad,qac,qab,PV.refs,PV.refsL,qag,gcH,qaf,Obj.refs,PV.ren,PV.renL,Obj.ren,Heap.obj,Fr.ren,gh,zzd]
  ·have hge:plc l x≤m:=by
    by_cases hh:plc l x≤m
    ·exact hh
    ·rw[qvp l x m g2 (by omega)] at h;cases h
   simp[w4];refine hx' (a,m) ⟨by omega,by omega,by omega⟩ (by simp only;omega) _ _ ?_
   simp[gc,Fr.keep,qad,qac,qab,PV.refs,PV.refsL,qag,gcH,qaf,Obj.refs,PV.ren,PV.renL,Obj.ren,Heap.obj,Fr.ren,gh,zzd]
 ·have:a=b:=by omega
  subst this;have hp:plc l x=a:=by omega
  rw[hp] at he;simp[qlq,he]
def fnd (l:List ALeg) (x:ALeg):Bool:=match l[plc l x]? with|some y => !ltL x y|none=>false
theorem qzS (T:Tab) (hN:HN T) (l:List ALeg) (hs:Srt l) (x:ALeg) (w:DV) (t:Bool) (hn:l.length<1000000) :
  T.ref 262 [.r 0 (K1 3) 0 l.length t,.d x.dv,.f 263 []] [some (.sl (K1 3) 0 (l.map ALeg.dv)),some (.box (K1 3) (.d w))]=some (.t [.d (I (plc l x)),.d (.b (fnd l x))],[some (.sl (K1 3) 0 (l.map ALeg.dv)),some (.box (K1 3) (.d w))]):=by
 rw[qcz T (hN 262 qih rfl) rfl];have hH:Cl [some (.sl (K1 3) 0 (l.map ALeg.dv)),some (.box (K1 3) (.d w))]:=fun r h=>by simp[qab,qaf,Obj.refs,PV.refs] at h
 have lp:=fun k r he fr H => @qxM T hN l hs x w t hn k r he 0 l.length (Nat.zero_le _) (qro l x) (zzt _) fr H
 have hgc : ∀v J,gcV 2 (.t [.d v,.d (.b (fnd l x))]) (some (.sl (K1 3) 0 (l.map ALeg.dv))::some (.box (K1 3) (.d w))::J)=(.t [.d v,.d (.b (fnd l x))],[some (.sl (K1 3) 0 (l.map ALeg.dv)),some (.box (K1 3) (.d w))]):=fun v J=>qf7 hH (by simp[PV.refs,PV.refsL])
 simp[qih,Fr.ofArgs];refine lp _ _ (fun b => ?_) _ _ (by simp[gc,Fr.keep,qad,qac,qab,PV.refs,PV.refsL,qag,gcH,qaf,Obj.refs,PV.ren,PV.renL,Obj.ren,Heap.obj,Fr.ren,gh,zzd])
 by_cases hp:plc l x<l.length
 ·have e:=qth T hN l[plc l x] x
  have e2:=qDt l[plc l x] x (qqE l x hp)
  have hf:fnd l x = !ltL x l[plc l x]:=by rw[fnd,zze hp]
  rw[←hf] at e2;have g3:(plc l x:Int)<l.length:=by omega
  generalize plc l x=m at *
  simp[↓qa5,↓qa8,↓qaW,↓qbd,↓qaY,qaZ,↓qa1,↓qbh,↓qa2,↓qa3,↓qbf,qaM,writeS,touchS,qam,qax,chg,qaK,qaB,qat,qaE,PV.refs,IOp.okD,Nat.testBit,hp,g3,↓qgT,↓qgL,↓qjC,↓qiI,qal,e,e2,qb2];exact hgc _ _
 ·have hf:fnd l x=false:=by rw[fnd,List.getElem?_eq_none (by omega)]
  have hp' : ¬((plc l x:Int)<l.length):=by omega
  rw[hf] at hgc⊢;simp[↓qa5,↓qa8,↓qaW,↓qbd,↓qaY,qaZ,↓qa1,↓qbh,↓qa2,↓qa3,↓qbf,qaM,writeS,touchS,qam,qax,chg,qaK,qaB,qat,qaE,PV.refs,PV.refsL,IOp.okD,Nat.testBit,hp',qb2];exact hgc _ _
end Go.Sim
end
end
