/- Part 22 of the proof. -/
import Derived.Test.YtmaaepdecdhmnaaGreatDoorB21
import Derived.Test.YtmaaepdecdhmnaaGreatDoorB6
import Derived.Test.YtmaaepdecdhmnaaGreatDoorB8
import Derived.Test.YtmaaepdecdhmnaaGreatDoorB9
namespace Go.Sim
set_option maxRecDepth 100000
set_option maxHeartbeats 8000000
section
attribute [local simp ↓] qdZ qdX qdP qdY qdM qdQ qdN qdO sqK blK lpK qd4 qd2 qd0 qd3 qd1 qdI qdK qeu qdo qdm qdn qdr qcS qcT qcD qcG qcR qcV qcF qcW qcL qcN qcO qcP qcU qcQ qcE qcH qcj qcI qcM qdk qdh qcY qcX qc6 qcZ qbu qbC qc0 qc1 qd6 qcu qd5 qes qcz qdc qdd qc7 qc9 qc8 qcl qdl qcn qc3 qdg qdb qda qc5 qc4 qdf qdi qc2 qde qdJ qck qcy qdz qcw qbR qdA qco qcp qdj qbV qer qcJ qdp qdq qd8 qet qd7 qdR qdS qdT qdU qdV qdW qcK qdy qew qeP qeQ qeN qeO qeM qev qeT qeR qfn qeS qfs
attribute [local simp] qbO qd9 qea qdE qdF qds qdt qep qeq qdB qdC rd IOp.adds qaq gh nid rgK rdS qdG qdH qeb qec qeg qeh qek qef qej qei qcC qcA qcB qee qed qdx qdw qem qel qen qeo qeC qeB qeE qeD qeH qeA qeI qfq qfj qfp qfo
def qa2(acc day:Int)(x:ABlock):Bool:=x.Account==acc&&(decide (x.From≤day)&&decide (day≤x.To))
def qao(k:K):List DV→PV
  | []=>.d (.l k [] true)
  | _x::r=>.r 0 k 0 (r.length+1) false
def qaR(k:K):List DV→Heap
  | []=>[]
  |x::r=>[some (.sl k 0 (x::r))]
theorem qC9(T:Tab)(l:List ABlock)(t:Bool)(acc day:Int)(hn:l.length≤100000){k:KC (PV×Bool)}{fr:Fr}{H:Heap}
    (hk:∀(out:List ABlock),out.length≤l.length→k (.exit 0) ((13,.d (.b false))::[(12,(.d (I (l.length:Int)))),(11,(.d (I l.length))),(10,(.d (.l (K1 7) (l.map ABlock.dv) t))),(7,(qao (K1 7) (out.map ABlock.dv))),(2,(.d (I day))),(1,(.d (I acc)))]) (qaR (K1 7) (out.map ABlock.dv))=some (.d (.l (K1 7) (out.map ABlock.dv) false),true))
    (h0:gc [1,2,7,10,11,12] 0 ⟨fr,H⟩=⟨[(12,(.d (I (0:Int)))),(11,(.d (I l.length))),(10,(.d (.l (K1 7) (l.map ABlock.dv) t))),(7,(qao (K1 7) [])),(2,(.d (I day))),(1,(.d (I acc)))],qaR (K1 7) []⟩) :
    kC T.env 0 fr H (.h (.loop [1,2,7,10,11,12] ql0,k))=some (.d (.l (K1 7) ((l.filter (qa2 acc day)).map ABlock.dv) false),true):=by
  have hm:=mxl
  rw[qa3 l (fun i (out:List ABlock)=>⟨[(12,(.d (I (i:Int)))),(11,(.d (I l.length))),(10,(.d (.l (K1 7) (l.map ABlock.dv) t))),(7,(qao (K1 7) (out.map ABlock.dv))),(2,(.d (I day))),(1,(.d (I acc)))],qaR (K1 7) (out.map ABlock.dv)⟩) (fun i out=>out.length≤i) (fun i out x c=>c (if qa2 acc day x=true then out++[x]else out)) (fun out=>if out.length≤l.length then some (.d (.l (K1 7) (out.map ABlock.dv) false),true)else k (.exit 0) ((13,.d (.b false))::[(12,(.d (I (l.length:Int)))),(11,(.d (I l.length))),(10,(.d (.l (K1 7) (l.map ABlock.dv) t))),(7,(qao (K1 7) (out.map ABlock.dv))),(2,(.d (I day))),(1,(.d (I acc)))]) (qaR (K1 7) (out.map ABlock.dv))) ?_ ?_ (b0:=[]) h0 (zzt _)]
  · rw[qbG (fun _ out x=>if qa2 acc day x=true then out++[x]else out) _ _ (fun _ _ _ _=>rfl)]
    have key:∀(l:List ABlock) (i:Nat) (out:List ABlock),qag (fun _ out x=>if qa2 acc day x=true then out++[x]else out) i out l=out++l.filter (qa2 acc day):=by
      intro l;induction l with
      |nil=>intro i out;simp[qag]
      |cons x l ih=>intro i out;rw[qag,ih,List.filter_cons];split<;>simp
    rw[key,List.nil_append,if_pos (List.length_filter_le _ _)]
  · intro B _ out ho
    rw[if_pos ho,←hk out ho];have h1:¬((l.length:Int)<l.length):=by omega
    cases out with
    |nil=>simp[qao,qaR]
    |cons x out=>simp[qao,qaR]
  · intro B _ i out hi ho c hc
    have h1:(i:Int)<l.length:=by omega
    have h3:=wr1 (i:=i) (by omega)
    have hs:(if qa2 acc day l[i]=true then out++[l[i]]else out).length≤i+1:=by
      split
      · simp only[zzp,zzn,List.length_nil];omega
      · omega
    have h4:(out.length+1)*64≤2^47:=by omega
    have h4':(out.length+1)*64≤140737488355328:=by omega
    cases out with
    |nil =>
      simp[h1,hi,qao,qaR];repeat' (refine qat (fun h => ?_) (fun h => ?_)<;>(try simp at h)<;>(try simp[h,h3]))
      all_goals first
        | (have e:(if qa2 acc day l[i]=true then [l[i]]else [])=[l[i]]:=by simp[qa2, *]
           rw[e];exact hc _ _ _ (by simp) (by simp[gc,Fr.keep,qaf,qae,qad,PV.refs,qaj,gcH,qai,Obj.refs,PV.ren,Obj.ren,Heap.obj,Fr.ren,gh,zzd,qao,qaR]))
        | (have e:(if qa2 acc day l[i]=true then [l[i]]else [])=[]:=by
             simp[qa2, *];try omega
           rw[e];exact hc _ _ _ (by simp) (by simp[gc,Fr.keep,qaf,qae,qad,PV.refs,gcH,PV.ren,Obj.ren,Heap.obj,Fr.ren,gh,qao,qaR]))
    |cons x out =>
      have h5:(out.length+1+1)*64≤140737488355328:=by simpa using h4'
      have ht:(out.map ABlock.dv).take out.length=out.map ABlock.dv:=zzv (by simp)
      simp only[zzn]at ho;simp[h1,hi,qao,qaR];repeat' (refine qat (fun h => ?_) (fun h => ?_)<;>(try simp at h)<;>(try simp[h,h3,h5]))
      all_goals first
        | (have e:(if qa2 acc day l[i]=true then x::(out++[l[i]])else x::out)=x::(out++[l[i]]):=by simp[qa2, *]
           rw[e];exact hc _ _ _ (by simp;omega) (by simp[gc,Fr.keep,qaf,qae,qad,PV.refs,qaj,gcH,qai,Obj.refs,PV.ren,Obj.ren,Heap.obj,Fr.ren,gh,zzd,qao,qaR,ht]))
        | (have e:(if qa2 acc day l[i]=true then x::(out++[l[i]])else x::out)=x::out:=by
             simp[qa2, *];try omega
           rw[e];exact hc _ _ _ (by simp;omega) (by simp[gc,Fr.keep,qaf,qae,qad,PV.refs,qaj,gcH,qai,Obj.refs,PV.ren,Obj.ren,Heap.obj,Fr.ren,gh,zzd,qao,qaR]))
theorem qyI(T:Tab)(hT:HU T)(l:List ABlock)(t:Bool)(acc day:Int)(hn:l.length≤100000):T.val 803 [.l (K1 7) (l.map ABlock.dv) t,I acc,I day]=some (.d (.l (K1 7) ((l.filter (qa2 acc day)).map ABlock.dv) false),true):=by
  rw[qab T (hT 803 F803 rfl) rfl];simp[F803,Fr.ofArgs];refine qC9 T l t acc day hn (fun out ho => ?_) (by simp[gc,Fr.keep,qaf,qae,qad,PV.refs,gcH,PV.ren,Obj.ren,Heap.obj,Fr.ren,gh,qao,qaR])
  cases out with
  |nil=>simp[qao,qaR]
  |cons x out =>
    have ht:(out.map ABlock.dv).take out.length=out.map ABlock.dv:=zzv (by simp)
    simp[qao,qaR,ht]
def qfS(k:K):List DV→PV
  | []=>.r 0 k 0 0 true
  | _x::r=>.r 0 k 0 (r.length+1) false
def qfR(k:K)(l:List DV):Heap:=[some (.sl k 0 l)]
theorem qCj(T:Tab)(l:List ABlock)(t:Bool)(acc day:Int)(hn:l.length≤100000){k:KC (PV×Bool)}{_r:Option (PV×Bool)}{fr:Fr}{H:Heap}
    (hk:∀(out:List ABlock),out.length≤l.length→k (.exit 0) ((13,.d (.b false))::[(8,(.d (I (l.length:Int)))),(7,(qfS (K1 7) (out.map ABlock.dv))),(2,(.d (I day))),(1,(.d (I acc))),(0,(.d (.l (K1 7) (l.map ABlock.dv) t)))]) (qfR (K1 7) (out.map ABlock.dv))=some (.d (.l (K1 7) (out.map ABlock.dv) false),true))
    (h0:gc [0,1,2,7,8] 0 ⟨fr,H⟩=⟨[(8,(.d (I (0:Int)))),(7,(qfS (K1 7) [])),(2,(.d (I day))),(1,(.d (I acc))),(0,(.d (.l (K1 7) (l.map ABlock.dv) t)))],qfR (K1 7) []⟩) :
    kC T.env 0 fr H (.h (.loop [0,1,2,7,8] qlS,k))=some (.d (.l (K1 7) ((l.filter (qa2 acc day)).map ABlock.dv) false),true):=by
  have hm:=mxl
  rw[qa3 l (fun i (out:List ABlock)=>⟨[(8,(.d (I (i:Int)))),(7,(qfS (K1 7) (out.map ABlock.dv))),(2,(.d (I day))),(1,(.d (I acc))),(0,(.d (.l (K1 7) (l.map ABlock.dv) t)))],qfR (K1 7) (out.map ABlock.dv)⟩) (fun i out=>out.length≤i) (fun i out x c=>c (if qa2 acc day x=true then out++[x]else out)) (fun out=>if out.length≤l.length then some (.d (.l (K1 7) (out.map ABlock.dv) false),true)else k (.exit 0) ((13,.d (.b false))::[(8,(.d (I (l.length:Int)))),(7,(qfS (K1 7) (out.map ABlock.dv))),(2,(.d (I day))),(1,(.d (I acc))),(0,(.d (.l (K1 7) (l.map ABlock.dv) t)))]) (qfR (K1 7) (out.map ABlock.dv))) ?_ ?_ (b0:=[]) h0 (zzt _)]
  · rw[qbG (fun _ out x=>if qa2 acc day x=true then out++[x]else out) _ _ (fun _ _ _ _=>rfl)]
    have key:∀(l:List ABlock) (i:Nat) (out:List ABlock),qag (fun _ out x=>if qa2 acc day x=true then out++[x]else out) i out l=out++l.filter (qa2 acc day):=by
      intro l;induction l with
      |nil=>intro i out;simp[qag]
      |cons x l ih=>intro i out;rw[qag,ih,List.filter_cons];split<;>simp
    rw[key,List.nil_append,if_pos (List.length_filter_le _ _)]
  · intro B _ out ho
    rw[if_pos ho,←hk out ho];have h1:¬((l.length:Int)<l.length):=by omega
    cases out with
    |nil=>simp[qfS,qfR]
    |cons x out=>simp[qfS,qfR]
  · intro B _ i out hi ho c hc
    have h1:(i:Int)<l.length:=by omega
    have h3:=wr1 (i:=i) (by omega)
    have hs:(if qa2 acc day l[i]=true then out++[l[i]]else out).length≤i+1:=by
      split
      · simp only[zzp,zzn,List.length_nil];omega
      · omega
    have h4:(out.length+1)*64≤2^47:=by omega
    have h4':(out.length+1)*64≤140737488355328:=by omega
    cases out with
    |nil =>
      simp[h1,hi,qfS,qfR];repeat' (refine qat (fun h => ?_) (fun h => ?_)<;>(try simp at h)<;>(try simp[h,h1,hi,h3]))
      all_goals first
        | (have e:(if qa2 acc day l[i]=true then [l[i]]else [])=[l[i]]:=by simp[qa2, *]
           rw[e];exact hc _ _ _ (by simp) (by simp[gc,Fr.keep,qaf,qae,qad,PV.refs,qaj,gcH,qai,Obj.refs,PV.ren,Obj.ren,Heap.obj,Fr.ren,gh,zzd,qfS,qfR]))
        | (have e:(if qa2 acc day l[i]=true then [l[i]]else [])=[]:=by
             simp[qa2, *];try omega
           rw[e];exact hc _ _ _ (by simp) (by simp[gc,Fr.keep,qaf,qae,qad,PV.refs,qaj,gcH,qai,Obj.refs,PV.ren,Obj.ren,Heap.obj,Fr.ren,gh,zzd,qfS,qfR]))
    |cons x out =>
      have h5:(out.length+1+1)*64≤140737488355328:=by simpa using h4'
      have ht:(out.map ABlock.dv).take out.length=out.map ABlock.dv:=zzv (by simp)
      simp only[zzn]at ho;simp[h1,hi,qfS,qfR];repeat' (refine qat (fun h => ?_) (fun h => ?_)<;>(try simp at h)<;>(try simp[h,h1,hi,h3,h5]))
      all_goals first
        | (have e:(if qa2 acc day l[i]=true then x::(out++[l[i]])else x::out)=x::(out++[l[i]]):=by simp[qa2, *]
           rw[e];exact hc _ _ _ (by simp;omega) (by simp[gc,Fr.keep,qaf,qae,qad,PV.refs,qaj,gcH,qai,Obj.refs,PV.ren,Obj.ren,Heap.obj,Fr.ren,gh,zzd,qfS,qfR,ht]))
        | (have e:(if qa2 acc day l[i]=true then x::(out++[l[i]])else x::out)=x::out:=by
             simp[qa2, *];try omega
           rw[e];exact hc _ _ _ (by simp;omega) (by simp[gc,Fr.keep,qaf,qae,qad,PV.refs,qaj,gcH,qai,Obj.refs,PV.ren,Obj.ren,Heap.obj,Fr.ren,gh,zzd,qfS,qfR]))
theorem qx8(T:Tab)(hT:HU T)(l:List ABlock)(t:Bool)(acc day:Int)(hn:l.length≤100000):T.val 1025 [.l (K1 7) (l.map ABlock.dv) t,I acc,I day]=some (.d (.l (K1 7) ((l.filter (qa2 acc day)).map ABlock.dv) false),true):=by
  rw[qab T (hT 1025 F1025 rfl) rfl];simp[F1025,Fr.ofArgs];refine qCj T l t acc day hn (_r:=none) (fun out ho => ?_) (by simp[gc,Fr.keep,qaf,qae,qad,PV.refs,qaj,gcH,qai,Obj.refs,PV.ren,Obj.ren,Heap.obj,Fr.ren,gh,zzd,qfS,qfR])
  cases out with
  |nil=>simp[qfS,qfR]
  |cons x out =>
    have ht:(out.map ABlock.dv).take out.length=out.map ABlock.dv:=zzv (by simp)
    simp[qfS,qfR,ht]
def qmh(x:ABlock):DV:=if x.Kind=1 then .ifc 165 (.a [])else if x.Kind=2 then .ifc 166 (.a [])else if x.Kind=3 then .ifc 167 (.a [])else if x.Kind=4 then .ifc 107 (.a [I x.Amount])else .ifc 168 (.a [])
theorem qyJ(T:Tab)(hT:HU T)(x:ABlock):T.val 804 [x.dv]=some (.d (qmh x),false):=by
  rw[qab T (hT 804 qlE rfl) rfl];simp[qlE,Fr.ofArgs];repeat' (refine qat (fun h => ?_) (fun h => ?_)<;>(try simp at h)<;>(try simp[h,↓qaA,↓qaC,↓qaB,putAt,mkA,qal,qax,qay]))
  all_goals simp_all[qmh]
def qfN(_:Nat)(n:Int)(x:ABlock):Int:=if (x.Kind==4)=true then w64 (n+x.Amount)else n
def qmW(l:List ABlock)(acc day:Int):Int:=qag qfN 0 0 (l.filter (qa2 acc day))
theorem qz1(x:ABlock):∃u v,qmh x = .ifc u v∧((u=107∧v = .a [I x.Amount]∧x.Kind=4)∨(u≠107∧x.Kind≠4)):=by
  unfold qmh;by_cases h1:x.Kind=1
  · exact⟨165,.a [],by rw[if_pos h1],.inr ⟨by decide,by omega⟩⟩
  by_cases h2:x.Kind=2
  · exact⟨166,.a [],by rw[if_neg h1,if_pos h2],.inr ⟨by decide,by omega⟩⟩
  by_cases h3:x.Kind=3
  · exact⟨167,.a [],by rw[if_neg h1,if_neg h2,if_pos h3],.inr ⟨by decide,by omega⟩⟩
  by_cases h4:x.Kind=4
  · exact⟨107,_,by rw[if_neg h1,if_neg h2,if_neg h3,if_pos h4],.inl ⟨rfl,rfl,h4⟩⟩
  · exact⟨168,.a [],by rw[if_neg h1,if_neg h2,if_neg h3,if_neg h4],.inr ⟨by decide,h4⟩⟩
theorem qC6(T:Tab)(l:List ABlock)(t:Bool)(hT:HU T)(hn:l.length≤maxLen){k:KC (PV×Bool)}{fr:Fr}{H:Heap}(h0:gc [7,15,16,17] 0 ⟨fr,H⟩=⟨[(17,(.d (I (0:Int)))),(16,(.d (I l.length))),(15,(.d (.l (K1 7) (l.map ABlock.dv) t))),(7,(.d (I 0)))],[]⟩) :
    kC T.env 0 fr H (.h (.loop [7,15,16,17] qnp,k))=k (.exit 0) [(18,.d (.b false)),(17,(.d (I (l.length:Int)))),(16,(.d (I l.length))),(15,(.d (.l (K1 7) (l.map ABlock.dv) t))),(7,(.d (I (qag (qfN) 0 0 l))))] []:=by
  rw[qa3 l (fun i (b:Int)=>⟨[(17,(.d (I (i:Int)))),(16,(.d (I l.length))),(15,(.d (.l (K1 7) (l.map ABlock.dv) t))),(7,(.d (I b)))],[]⟩) (fun _ _=>True) (fun i b x c=>c (qfN i b x)) (fun b=>k (.exit 0) [(18,.d (.b false)),(17,(.d (I (l.length:Int)))),(16,(.d (I l.length))),(15,(.d (.l (K1 7) (l.map ABlock.dv) t))),(7,(.d (I b)))] []) ?_ ?_ h0 trivial]
  · rw[qbG (qfN) _ _ (fun _ _ _ _=>rfl)]
  · intro B _ b _
    simp
  · intro B _ i b hi _ c hc
    have hm:=mxl
    have h1:(i:Int)<l.length:=by omega
    have h3:=wr1 (i:=i) (by omega)
    have hv:=qyJ T hT l[i]
    obtain⟨u,v,hc1,⟨rfl,rfl,hk⟩|⟨hu,hk⟩⟩:=qz1 l[i]
    · rw[hc1]at hv
      have e:qfN i b l[i]=w64 (b+l[i].Amount):=by simp[qfN,hk]
      simp[h1,hi,hv];rw[e];exact hc _ _ _ trivial (by simp[gc,Fr.keep,qaf,qae,qad,PV.refs,gcH,PV.ren,Obj.ren,Heap.obj,Fr.ren,gh,h3,w64])
    · rw[hc1]at hv
      have e:qfN i b l[i]=b:=by simp[qfN,hk]
      simp[h1,hi,h3,hv,hu];rw[e];exact hc _ _ _ trivial (by simp[gc,Fr.keep,qaf,qae,qad,PV.refs,gcH,PV.ren,Obj.ren,Heap.obj,Fr.ren,gh])
theorem qK5(T:Tab)(hT:HU T)(l:List ABlock)(t:Bool)(acc day:Int)(hn:l.length≤100000):T.val 720 [.l (K1 7) (l.map ABlock.dv) t,I acc,I day]=some (.d (I (qmW l acc day)),false):=by
  rw[qab T (hT 720 F720 rfl) rfl];have e:=qyI T hT l t acc day hn
  have hl:(l.filter (qa2 acc day)).length≤maxLen:=by
    have:=List.length_filter_le (qa2 acc day) l
    have hm:=mxl
    omega
  simp[F720,Fr.ofArgs,e];refine (qC6 T (l.filter (qa2 acc day)) false hT hl (by simp[gc,Fr.keep,qaf,qae,qad,PV.refs,gcH,PV.ren,Obj.ren,Heap.obj,Fr.ren,gh])).trans ?_
  simp[qmW]
theorem qCm(T:Tab)(l:List ABlock)(t:Bool)(_hT:HU T)(hn:l.length≤maxLen){k:KC (PV×Bool)}{fr:Fr}{H:Heap}(h0:gc [7,8,9] 0 ⟨fr,H⟩=⟨[(9,(.d (I (0:Int)))),(8,(.d (I 0))),(7,(.d (.l (K1 7) (l.map ABlock.dv) t)))],[]⟩) :
    kC T.env 0 fr H (.h (.loop [7,8,9] qpk,k))=k (.exit 0) [(17,.d (.b false)),(9,(.d (I (l.length:Int)))),(8,(.d (I (qag (qfN) 0 0 l)))),(7,(.d (.l (K1 7) (l.map ABlock.dv) t)))] []:=by
  rw[qa3 l (fun i (b:Int)=>⟨[(9,(.d (I (i:Int)))),(8,(.d (I b))),(7,(.d (.l (K1 7) (l.map ABlock.dv) t)))],[]⟩) (fun _ _=>True) (fun i b x c=>c (qfN i b x)) (fun b=>k (.exit 0) [(17,.d (.b false)),(9,(.d (I (l.length:Int)))),(8,(.d (I b))),(7,(.d (.l (K1 7) (l.map ABlock.dv) t)))] []) ?_ ?_ h0 trivial]
  · rw[qbG (qfN) _ _ (fun _ _ _ _=>rfl)]
  · intro B _ b _
    simp
  · intro B _ i b hi _ c hc
    have hm:=mxl
    have h1:(i:Int)<l.length:=by omega
    have h3:=wr1 (i:=i) (by omega)
    simp[h1,hi];repeat' (refine qat (fun h => ?_) (fun h => ?_)<;>(try simp at h)<;>(try simp[h1,hi,h3]))
    all_goals first
      | (have e:(qfN) i b l[i]=w64 (b+l[i].Amount):=by
           simp[qfN,w64, *];try (intros;omega)
         rw[e];exact hc _ _ _ trivial (by simp[gc,Fr.keep,qaf,qae,qad,PV.refs,gcH,PV.ren,Obj.ren,Heap.obj,Fr.ren,gh];try rfl))
      | (have e:(qfN) i b l[i]=b:=by
           simp[qfN, *];try (intros;omega)
         rw[e];exact hc _ _ _ trivial (by simp[gc,Fr.keep,qaf,qae,qad,PV.refs,gcH,PV.ren,Obj.ren,Heap.obj,Fr.ren,gh];try rfl))
theorem qJC(T:Tab)(hT:HU T)(l:List ABlock)(t:Bool)(acc day:Int)(hn:l.length≤100000):T.val 1029 [.l (K1 7) (l.map ABlock.dv) t,I acc,I day]=some (.d (I (qmW l acc day)),false):=by
  rw[qab T (hT 1029 F1029 rfl) rfl];have e:=qx8 T hT l t acc day hn
  have hl:(l.filter (qa2 acc day)).length≤maxLen:=by
    have:=List.length_filter_le (qa2 acc day) l
    have hm:=mxl
    omega
  simp[F1029,Fr.ofArgs,e];refine (qCm T (l.filter (qa2 acc day)) false hT hl (by simp[gc,Fr.keep,qaf,qae,qad,PV.refs,gcH,PV.ren,Obj.ren,Heap.obj,Fr.ren,gh])).trans ?_
  simp[qmW]
end
section
attribute [local simp ↓] qdZ qdX qdP qdY qdM qdQ qdN qdO sqK blK lpK qd4 qd2 qd0 qd3 qd1 qdI qdK qeu qdo qdm qdn qdr qcS qcT qcD qcG qcR qcV qcF qcW qcL qcN qcO qcP qcU qcQ qcE qcH qcj qcI qcM qdk qdh qcY qcX qc6 qcZ qbu qbC qc0 qc1 qd6 qcu qd5 qes qcz qdc qdd qc7 qc9 qc8 qcl qdl qcn qc3 qdg qdb qda qc5 qc4 qdf qdi qc2 qde qdJ qck qcy qdz qcw qbR qdA qco qcp qdj qbV qer qcJ qdp qdq qd8 qet qd7 qdR qdS qdT qdU qdV qdW qcK qdy qew qeP qeQ qeN qeO qeM qev qeT qeR qfn qeS qfs qfJ qcm
attribute [local simp] qbO qd9 qea qdE qdF qds qdt qep qeq qdB qdC rd IOp.adds qaq gh nid rgK rdS qdG qdH qeb qec qeg qeh qek qef qej qei qcC qcA qcB qee qed qdx qdw qem qel qen qeo qeC qeB qeE qeD qeH qeA qeI qfq qfj qfp qfo
section
attribute [local simp ↓] qbJ qbT qbx qeG qbS qfk qbt qbw qce qeV qeW qcq qcr qbv qey qbz qe0 qeZ qe6 qfi qeY qfg qff qbD qe2 qbX qe3 qe5 qe4 qe7 qe1 qe9 qfb qfe qfd qfc qe8 qfa qfh qex qeX
attribute [local simp] qby qbe writeS touchS qaD qa4 chg qbm qbb qaY qbc PV.refs PV.refsL IOp.okD IOp.barr qb2 Nat.testBit
attribute [local simp] gc Fr.keep qaf qae qad PV.refs PV.refsL qaj gcH qai Obj.refs PV.ren PV.renL Obj.ren Heap.obj Fr.ren gh zzd
def qbd(k:K)(bs:Heap):List DV→Heap
 | []=>bs
 |x::r=>some (.sl k 0 (x::r))::bs
def pB(i:Nat):List DV→PV
 | []=>.p i 0 0
 | _::_=>.p (i+1) 0 0
theorem qkV{α:Type}(f:α→DV)(l:List α)(i:Nat)(h:i<l.length):(l.take (i+1)).map f=(l.take i).map f++[f l[i]]:=by
 rw[zzw h,List.map_append,zzu,List.map_nil]
theorem qDo(T:Tab)(op:Int)(vs:List AValue)(t:Bool)(z:DV)(hn:vs.length*56≤140737488355328){k:KC (PV×Bool)}{r:Option (PV×Bool)}{fr:Fr}{H:Heap}
  (he:k (.exit 0) [(19,.d (.b false)),(18,.d (I vs.length)),(17,.d (I vs.length)),(16,.d (.l (K1 2) (vs.map AValue.dv) t)),(6,qao K0 (vs.map fun v=>I v.Typ)),(4,pB 0 (vs.map fun v=>I v.Typ)),(1,.d (.l (K1 2) (vs.map AValue.dv) t)),(0,.d (I op))] (qbd K0 [some (.box (K1 2) (.d z))] (vs.map fun v=>I v.Typ))=r)
  (h0:gc [0,1,4,6,16,17,18] 0 ⟨fr,H⟩=⟨[(18,.d (I 0)),(17,.d (I vs.length)),(16,.d (.l (K1 2) (vs.map AValue.dv) t)),(6,.d (.l K0 [] true)),(4,.p 0 0 0),(1,.d (.l (K1 2) (vs.map AValue.dv) t)),(0,.d (I op))],[some (.box (K1 2) (.d z))]⟩) :
  kC T.env 0 fr H (.h (.loop [0,1,4,6,16,17,18] qnx,k))=r:=by
 refine qf1 (fun p:Nat×List DV=>⟨[(18,.d (I p.1)),(17,.d (I vs.length)),(16,.d (.l (K1 2) (vs.map AValue.dv) t)),(6,qao K0 p.2),(4,pB 0 p.2),(1,.d (.l (K1 2) (vs.map AValue.dv) t)),(0,.d (I op))],qbd K0 [some (.box (K1 2) (.d z))] p.2⟩) (fun i=>(i,(vs.take i).map fun v=>I v.Typ)) vs.length ?_ ?_ (by rw[h0];rfl)
 ·intro B _;simp only[List.take_length];rw[←he];have h1:¬((vs.length:Int)<vs.length):=by omega
  simp
 ·intro B _ i hi c hc;have h1:(i:Int)<vs.length:=by omega
  have h3:=wr1 (i:=i) (by omega)
  have hl:((vs.take i).map fun v=>I v.Typ).length≤i:=by simp;omega
  simp only[qkV (fun v:AValue=>I v.Typ) vs i hi]at hc
  simp only;generalize (vs.take i).map (fun v=>I v.Typ)=o at *
  cases o with
  |nil =>
   simp only[qao,qbd,pB,List.nil_append]at hc⊢;simp[h1,hi,h3];exact hc _ _ (by simp)
  |cons x o =>
   simp only[qao,qbd,pB,List.cons_append]at hc⊢;simp only[zzn]at hl;have h5:(o.length+1+1)*8≤140737488355328:=by omega
   have ht:o.take o.length=o:=zzv (by simp)
   simp[h1,hi,h3,h5,ht];exact hc _ _ (by simp)
theorem qDp(T:Tab)(hT:HT T)(op w:Int)(vs:List AValue)(t:Bool)(z:DV)(hn:vs.length*56≤140737488355328){k:KC (PV×Bool)}{r:Option (PV×Bool)}{fr:Fr}{H:Heap}
  (he:vs.all okV=true→k (.exit 2) [(40,.d (.b false)),(39,.d (I vs.length)),(38,.d (I vs.length)),(37,.d (.l (K1 2) (vs.map AValue.dv) t)),(9,.d (I w)),(4,.p 0 0 0),(1,.d (.l (K1 2) (vs.map AValue.dv) t)),(0,.d (I op))] [some (.box (K1 2) (.d z))]=r)
  (hr:vs.all okV=false→∀fr J,fr.get 4 = .p 0 0 0→fr.get 5 = .d (I 1)→qak fr=[]→k .ret fr (some (.box (K1 2) (.d (.a [I 0,I 0])))::J)=r)
  (h0:gc [0,1,4,9,37,38,39] 0 ⟨fr,H⟩=⟨[(39,.d (I 0)),(38,.d (I vs.length)),(37,.d (.l (K1 2) (vs.map AValue.dv) t)),(9,.d (I w)),(4,.p 0 0 0),(1,.d (.l (K1 2) (vs.map AValue.dv) t)),(0,.d (I op))],[some (.box (K1 2) (.d z))]⟩) :
  kC T.env 0 fr H (.h (.loop [0,1,4,9,37,38,39] qny,k))=r:=by
 refine qbB (fun i:Nat=>⟨[(39,.d (I i)),(38,.d (I vs.length)),(37,.d (.l (K1 2) (vs.map AValue.dv) t)),(9,.d (I w)),(4,.p 0 0 0),(1,.d (.l (K1 2) (vs.map AValue.dv) t)),(0,.d (I op))],[some (.box (K1 2) (.d z))]⟩) (fun i=>i≤vs.length∧(vs.take i).all okV=true) (fun i=>vs.length-i) ?_ 0 ⟨zzK _,by simp⟩ h0
 rintro B-i ⟨hi,ha⟩ hx;by_cases hlt:i<vs.length
 ·have h1:(i:Int)<vs.length:=by omega
  have h3:=wr1 (i:=i) (by omega)
  have e:=qtv T hT vs[i]
  cases hk:okV vs[i]with
  |true =>
   rw[hk]at e;have hx':=hx (i+1) ⟨by omega,by rw[zzw hlt,List.all_append,ha];simp[hk]⟩ (by omega)
   simp[h1,hlt,e,h3];exact hx' _ _ (by simp)
  |false =>
   rw[hk]at e;have hf:vs.all okV=false:=by
    rw[List.all_eq_false];exact⟨vs[i],zzs hlt,by simp[hk]⟩
   have hr':=hr hf
   simp[h1,hlt,e,↓qaA,↓qaC,mkA,qal];exact hr' _ _ (by simp[Fr.get]) (by simp[Fr.get]) (by simp[qak,gh])
 ·have:i=vs.length:=by omega
  subst this;rw[List.take_length]at ha;have he':=he ha
  have h1:¬((vs.length:Int)<vs.length):=by omega
  simp;exact he'
def chP(op:Int):List AValue→Int
 | [a]=>IntKind.i64.wrap (1-a.N)
 | [a,b]=>qeU op a.N b.N
 | [a,b,c]=>if a.N=1 then b.N else c.N
 | _=>0
def clP(op:Int):List AValue→Int×Int
 | [a]=>qbE (-a.N)
 | [a,b]=>qgP op a b
 | _=>(0,0)
def qbi(w:Int)(ok:Bool)(op:Int)(vs:List AValue):AValue×Int :=
 if ok=false then (⟨0,0⟩,3)else if vs.all okV=false then (⟨0,0⟩,1)
 else if op<5∨9<op then (⟨w,chP op vs⟩,0)
 else if (clP op vs).2=0 then (if okV ⟨w,(clP op vs).1⟩=true then (⟨w,(clP op vs).1⟩,0)else (⟨0,0⟩,6))
 else (⟨0,0⟩,(clP op vs).2)
def qfY(op:Int)(vs:List AValue):AValue×Int:=qbi (qaO op (vs.map (·.Typ))).1 (qaO op (vs.map (·.Typ))).2 op vs
def qam(p:AValue×Int):PV×Bool:=(.t [.d p.1.dv,.d (I p.2)],false)
theorem qtZ{op a b:Int}:∀{l},(∀x∈l,(5:Int)≤x.1.1∧x.1.1≤8)→arF l op a b≠none→5≤op∧op≤8
 | [],_,h=>absurd rfl h
 |x::r,hl,h=>by
  rw[arF]at h;by_cases c:op=x.1.1∧a=x.1.2.1∧b=x.1.2.2
  ·have:=hl x (by simp)
   omega
  ·rw[if_neg c]at h;exact qtZ (fun y hy=>hl y (by simp[hy])) h
theorem qp9{op a b:Int}(h:arV op a b≠0):5≤op∧op≤8:=by
 apply qtZ (l:=arL) (a:=a) (b:=b)
 ·decide
 ·intro c;rw[arV,c]at h;exact h rfl
theorem qth{op a b:Int}(h:(qa7 op a b).2=true):op≠9∧op≠16∧op≠19:=by
 unfold qa7 at h;by_cases h1:op=10∨op=11
 ·omega
 rw[if_neg h1]at h;by_cases h2:op=12∨op=13
 ·omega
 rw[if_neg h2]at h;by_cases h3:op=14∨op=15
 ·omega
 rw[if_neg h3]at h;by_cases h4:op=17∨op=18
 ·omega
 rw[if_neg h4]at h;have h:arV op a b≠0:=by simpa using h
 have:=qp9 h
 omega
theorem qoB{op a:Int}(h:(qbM op a).2=true):op=9∨op=16:=by
 unfold qbM at h;by_cases h1:op=16
 ·exact .inr h1
 ·rw[if_neg h1]at h;by_cases h2:op=9
  ·exact .inl h2
  ·rw[if_neg h2]at h;cases h
theorem qzb(T:Tab)(hT:HT T)(op:Int)(vs:List AValue)(t:Bool)(hi:∀v∈vs,v.i)(h:(qaO op (vs.map (·.Typ))).2=true) :
  ((op<5∨9<op)→T.val 983 [I op,.l (K1 2) (vs.map AValue.dv) t]=some (.d (I (chP op vs)),false))∧(¬(op<5∨9<op)→T.val 984 [I op,.l (K1 2) (vs.map AValue.dv) t]=some (two (clP op vs))):=by
 unfold qaO at h;by_cases ha:(vs.map (·.Typ)).all qbl=true
 ·rw[if_pos ha]at h;match vs,hi,h with
  | [],_,h=>cases h
  | [a],hi,h =>
   simp only[zzu,List.map_nil]at h⊢;have ho:(qbM op a.Typ).2=true:=by
    by_cases c:(qbM op a.Typ).2=true
    ·exact c
    ·rw[if_neg c]at h;cases h
   have:=qoB ho
   refine⟨fun h1 => ?_,fun h1 => ?_⟩
   ·have:op=16:=by omega
    subst this;exact qLP T hT a t
   ·have:op=9:=by omega
    subst this;exact qLR T hT a t (hi a (by simp))
  | [a,b],hi,h =>
   simp only[zzu,List.map_nil]at h⊢;have ho:(qa7 op a.Typ b.Typ).2=true:=by
    by_cases c:(qa7 op a.Typ b.Typ).2=true
    ·exact c
    ·rw[if_neg c]at h;cases h
   obtain⟨o1,o2,o3⟩:=qth ho;exact⟨fun _=>qLN T hT op a b t o2 o3,fun _=>qLQ T hT op a b t (hi a (by simp)) (hi b (by simp)) o1⟩
  | [a,b,c],hi,h =>
   simp only[zzu,List.map_nil]at h⊢;have ho:op=19:=by
    by_cases c':op=19∧a.Typ=5∧b.Typ=c.Typ
    ·exact c'.1
    ·rw[if_neg c']at h;cases h
   subst ho;exact⟨fun _=>qLO T hT a b c t,fun h1=>absurd (.inr (by decide)) h1⟩
  | _::_::_::_::_,_,h=>cases h
 ·rw[if_neg ha]at h;cases h
theorem qhr(l:List DV):(PV.d (.a l)).cells=l.map .d:=rfl
theorem qbY(l:List DV):DV.cells (.a l)=l:=rfl
theorem qiH{R:Type}{a b:DV}{q:PV→Option R}:bo (mkP (K1 2) [.d a,.d b]) (.h q)=q (.d (.a [a,b])):=rfl
theorem qLL(T:Tab)(hT:HT T)(hA:HA T)(op:Int)(vs:List AValue)(t:Bool)(hn:vs.length*56≤140737488355328)(hi:∀v∈vs,v.i):T.val 967 [I op,.l (K1 2) (vs.map AValue.dv) t]=some (qam (qfY op vs)):=by
 have lp0:=fun k r fr H => @qDo T op vs t (.a [I 0,I 0]) hn k r fr H
 have lp1:=fun w k r fr H => @qDp T hT op w vs t (.a [I 0,I 0]) hn k r fr H
 have hm:=mxl
 have e411:=qo1 T hT hA op (vs.map (·.Typ)) false (by rw[zzo,hm];omega)
 have e411t:=qo1 T hT hA op (vs.map (·.Typ)) true (by rw[zzo,hm];omega)
 rw[List.map_map]at e411 e411t;have hp:=qzb T hT op vs t hi
 unfold qfY;have hmm:((fun n=>I n)∘fun v:AValue=>v.Typ)=fun v:AValue=>I v.Typ:=rfl
 rw[hmm]at e411 e411t;generalize qaO op (vs.map (·.Typ))=p at *
 obtain⟨w,ok⟩:=p;unfold qaz at e411 e411t;simp only at hp e411 e411t⊢;obtain⟨r,hr⟩:∃r,some (qam (qbi w ok op vs))=r:=⟨_,rfl⟩;rw[qab T (hT 967 F967 rfl) rfl,hr];simp[F967,Fr.ofArgs];refine lp0 _ _ _ _ ?_ (by simp)
 cases ho:vs.map (fun v=>I v.Typ)with
 |nil =>
  have hv:vs=[]:=by simpa using ho
  subst hv;simp only[List.map_nil]at e411t;cases ok with
  |false =>
   rw[qbi,if_pos rfl]at hr;rw[←hr];simp[qao,qbd,pB,e411t,↓qaA,↓qaC,mkA,qal,qam,AValue.dv]
  |true =>
   exfalso
   have:=e411t
   have e0:=qo1 T hT hA op [] true (by simp)
   simp only[List.map_nil]at e0;rw[e0]at this;simp[qaO,qaz]at this
 |cons x o =>
  rw[ho]at e411;have ht:o.take o.length=o:=zzv (by simp)
  cases ok with
  |false =>
   rw[qbi,if_pos rfl]at hr;rw[←hr];simp[qao,qbd,pB,ht,qaK,pur,qa9,PV.scal,PV.scal1,DV.scal,DV.scal1,e411,↓qaA,↓qaC,mkA,qal,qam,AValue.dv]
  |true =>
   obtain⟨p1,p2⟩:=hp rfl;rw[qbi,if_neg (by decide)]at hr
   simp[qao,qbd,pB,ht,qaK,pur,qa9,PV.scal,PV.scal1,DV.scal,DV.scal1,e411];refine lp1 w _ _ _ _ (fun ha => ?_) (fun ha fr J f4 f5 fg => ?_) (by simp)
   ·rw[if_neg (by rw[ha];decide)]at hr
    by_cases h5:op<5
    ·rw[if_pos (.inl h5)]at hr;rw[←hr];have e:=p1 (.inl h5)
     simp[h5,e,↓qaA,↓qaC,↓qaB,putAt,mkA,qal,qax,qay,qhr,qiH,qam,AValue.dv]
    ·by_cases h9:9<op
     ·rw[if_pos (.inr h9)]at hr;rw[←hr];have e:=p1 (.inr h9)
      simp[h5,h9,e,↓qaA,↓qaC,↓qaB,putAt,mkA,qal,qax,qay,qhr,qiH,qam,AValue.dv]
     ·rw[if_neg (by omega)]at hr
      rw[←hr];clear hr
      have e:=p2 (by omega)
      generalize clP op vs=q at *
      obtain⟨n,f⟩:=q;unfold two at e;simp only at e⊢;have e3:=qtv T hT ⟨w,n⟩
      rw[AValue.dv]at e3;simp only at e3;by_cases hf:f=0
      ·subst hf;rw[if_pos rfl];cases hk:okV ⟨w,n⟩with
       |true =>
        rw[hk]at e3;simp[h5,h9,e,e3,↓qaA,↓qaC,↓qaB,putAt,mkA,qal,qax,qay,qhr,qiH,qam,AValue.dv]
       |false =>
        rw[hk]at e3;simp[h5,h9,e,e3,↓qaA,↓qaC,↓qaB,putAt,mkA,qal,qax,qay,qhr,qiH,qam,AValue.dv]
      ·have gf:=qac hf
       rw[if_neg hf];simp[h5,h9,e,gf,bne,↓qaA,↓qaC,↓qaB,putAt,mkA,qal,qax,qay,qhr,qiH,qam,AValue.dv]
   ·rw[if_pos ha]at hr;rw[←hr];simp[f4,f5,fg,qam,AValue.dv]
end
end
def lsb{α:Type}(f:α→α→Bool):List α→List α→Bool
 | [],[]=>true
 |x::xs,y::ys=>f x y&&lsb f xs ys
 | _,_=>false
theorem qf2{α:Type}{f:α→α→Bool}(h:∀x,f x x=true):∀l,lsb f l l=true
 | []=>rfl
 |x::l=>by simp[lsb,h,qf2 h l]
def ibq(x y:Int):Bool:=x==y
theorem qeF(x:Int):ibq x x=true:=by simp[ibq]
def sbq(x y:List UInt8):Bool:=x==y
theorem qgp(x:List UInt8):sbq x x=true:=by simp[sbq]
def bbq(x y:Bool):Bool:=x==y
theorem qzl(x:Bool):bbq x x=true:=by simp[bbq]
mutual
def deq:DV→DV→Bool
 | .b x,.b y=>x==y
 | .i k n,.i k' m=>decide (k=k')&&decide (n=m)
 | .s x,.s y=>x==y
 | .a cs,.a ds=>qks cs ds
 | .l _ es _,.l _ fs _=>qks es fs
 | .np,.np=>true
 | .nf,.nf=>true
 | .ni,.ni=>true
 | .nm,.nm=>true
 | .ifc t v,.ifc t' w=>Nat.beq t t'&&deq v w
 | .tok n,.tok m=>Nat.beq n m
 | _,_=>false
def qks:List DV→List DV→Bool
 | [],[]=>true
 |x::xs,y::ys=>deq x y&&qks xs ys
 | _,_=>false
end
mutual
theorem quA:∀x,deq x x=true
 | .b x=>by simp[deq]
 | .i k n=>by simp[deq]
 | .s x=>by simp[deq]
 | .a cs=>by simp[deq,qnT cs]
 | .l k es t=>by simp[deq,qnT es]
 | .np=>rfl
 | .nf=>rfl
 | .ni=>rfl
 | .nm=>rfl
 | .ifc t v=>by simp[deq,quA v]
 | .tok n=>by simp[deq]
theorem qnT:∀x,qks x x=true
 | []=>rfl
 |x::xs=>by simp[qks,quA x,qnT xs]
end
def AWide.beq(x y:AWide):Bool:=ibq x.Hi y.Hi&&ibq x.Lo y.Lo
theorem AWide.beq_refl(x:AWide):AWide.beq x x=true:=by
 simp only[AWide.beq,qeF,Bool.and_true]
def ACurrency.beq(x y:ACurrency):Bool:=sbq x.Code y.Code&&ibq x.Digits y.Digits
theorem ACurrency.beq_refl(x:ACurrency):ACurrency.beq x x=true:=by
 simp only[ACurrency.beq,qgp,qeF,Bool.and_true]
def ACalendar.beq(x y:ACalendar):Bool:=sbq x.Name y.Name&&lsb ibq x.Weekend.l y.Weekend.l&&lsb ibq x.Holidays.l y.Holidays.l
theorem ACalendar.beq_refl(x:ACalendar):ACalendar.beq x x=true:=by
 simp only[ACalendar.beq,qgp,qf2 qeF,Bool.and_true]
def AVar.beq(x y:AVar):Bool:=sbq x.Name y.Name&&ibq x.Typ y.Typ
theorem AVar.beq_refl(x:AVar):AVar.beq x x=true:=by
 simp only[AVar.beq,qgp,qeF,Bool.and_true]
def ATier.beq(x y:ATier):Bool:=ibq x.From y.From&&ibq x.Ppm y.Ppm
theorem ATier.beq_refl(x:ATier):ATier.beq x x=true:=by
 simp only[ATier.beq,qeF,Bool.and_true]
def AInterest.beq(x y:AInterest):Bool:=lsb ATier.beq x.Tiers.l y.Tiers.l&&bbq x.Marginal y.Marginal&&ibq x.Basis y.Basis&&ibq x.Mode y.Mode&&bbq x.Keep y.Keep
theorem AInterest.beq_refl(x:AInterest):AInterest.beq x x=true:=by
 simp only[AInterest.beq,qf2 ATier.beq_refl,qzl,qeF,Bool.and_true]
def AExpr.beq(x y:AExpr):Bool:=ibq x.Op y.Op&&ibq x.N y.N&&sbq x.S y.S&&qks x.Args.l y.Args.l
theorem AExpr.beq_refl(x:AExpr):AExpr.beq x x=true:=by
 simp only[AExpr.beq,qeF,qgp,qnT,Bool.and_true]
def AFee.beq(x y:AFee):Bool:=sbq x.Name y.Name&&ibq x.Event y.Event&&AExpr.beq x.When y.When&&AExpr.beq x.Amount y.Amount
theorem AFee.beq_refl(x:AFee):AFee.beq x x=true:=by
 simp only[AFee.beq,qgp,qeF,AExpr.beq_refl,Bool.and_true]
def ARule.beq(x y:ARule):Bool:=sbq x.Name y.Name&&ibq x.Window y.Window&&AExpr.beq x.Amount y.Amount
theorem ARule.beq_refl(x:ARule):ARule.beq x x=true:=by
 simp only[ARule.beq,qgp,qeF,AExpr.beq_refl,Bool.and_true]
def AProduct.beq(x y:AProduct):Bool:=sbq x.Name y.Name&&sbq x.Currency y.Currency&&sbq x.Calendar y.Calendar&&ibq x.From y.From&&ibq x.Every y.Every&&ibq x.Overdraft y.Overdraft&&ibq x.TaxPpm y.TaxPpm&&AInterest.beq x.Credit y.Credit&&AInterest.beq x.Debit y.Debit&&lsb AFee.beq x.Fees.l y.Fees.l&&lsb ARule.beq x.Rules.l y.Rules.l
theorem AProduct.beq_refl(x:AProduct):AProduct.beq x x=true:=by
 simp only[AProduct.beq,qgp,qeF,AInterest.beq_refl,qf2 AFee.beq_refl,qf2 ARule.beq_refl,Bool.and_true]
def AGl.beq(x y:AGl):Bool:=ibq x.Id y.Id&&ibq x.Parent y.Parent&&ibq x.Kind y.Kind&&sbq x.Name y.Name
theorem AGl.beq_refl(x:AGl):AGl.beq x x=true:=by
 simp only[AGl.beq,qeF,qgp,Bool.and_true]
def ALeg.beq(x y:ALeg):Bool:=ibq x.Account y.Account&&ibq x.Amount y.Amount&&sbq x.Currency y.Currency
theorem ALeg.beq_refl(x:ALeg):ALeg.beq x x=true:=by
 simp only[ALeg.beq,qeF,qgp,Bool.and_true]
def AEntry.beq(x y:AEntry):Bool:=ibq x.Id y.Id&&ibq x.Booked y.Booked&&ibq x.Value y.Value&&ibq x.Kind y.Kind&&ibq x.Auth y.Auth&&ibq x.Period y.Period&&sbq x.Key y.Key&&sbq x.Text y.Text&&lsb ALeg.beq x.Legs.l y.Legs.l&&ibq x.Chain y.Chain
theorem AEntry.beq_refl(x:AEntry):AEntry.beq x x=true:=by
 simp only[AEntry.beq,qeF,qgp,qf2 ALeg.beq_refl,Bool.and_true]
def AHold.beq(x y:AHold):Bool:=ibq x.Id y.Id&&ibq x.Account y.Account&&ibq x.Amount y.Amount&&ibq x.From y.From&&ibq x.To y.To&&sbq x.Key y.Key
theorem AHold.beq_refl(x:AHold):AHold.beq x x=true:=by
 simp only[AHold.beq,qeF,qgp,Bool.and_true]
def ABlock.beq(x y:ABlock):Bool:=ibq x.Id y.Id&&ibq x.Account y.Account&&ibq x.Kind y.Kind&&ibq x.Amount y.Amount&&ibq x.From y.From&&ibq x.To y.To&&sbq x.Source y.Source
theorem ABlock.beq_refl(x:ABlock):ABlock.beq x x=true:=by
 simp only[ABlock.beq,qeF,qgp,Bool.and_true]
def AAccount.beq(x y:AAccount):Bool:=ibq x.Id y.Id&&ibq x.Opened y.Opened&&ibq x.Closed y.Closed&&ibq x.Extra y.Extra&&sbq x.Owner y.Owner&&sbq x.Product y.Product&&sbq x.Number y.Number
theorem AAccount.beq_refl(x:AAccount):AAccount.beq x x=true:=by
 simp only[AAccount.beq,qeF,qgp,Bool.and_true]
def APlan.beq(x y:APlan):Bool:=ibq x.Cash y.Cash&&ibq x.Deposits y.Deposits&&ibq x.InterestPaid y.InterestPaid&&ibq x.InterestEarned y.InterestEarned&&ibq x.FeeEarned y.FeeEarned&&ibq x.Tax y.Tax&&ibq x.Clearing y.Clearing&&ibq x.Loans y.Loans&&ibq x.LoanInterest y.LoanInterest&&ibq x.Penalty y.Penalty&&ibq x.Provision y.Provision&&ibq x.ProvisionCost y.ProvisionCost&&ibq x.Loss y.Loss&&ibq x.Recovery y.Recovery
theorem APlan.beq_refl(x:APlan):APlan.beq x x=true:=by
 simp only[APlan.beq,qeF,Bool.and_true]
def ABooks.beq(x y:ABooks):Bool:=lsb ACurrency.beq x.Currencies.l y.Currencies.l&&lsb ACalendar.beq x.Calendars.l y.Calendars.l&&lsb AGl.beq x.Chart.l y.Chart.l&&APlan.beq x.Plan y.Plan&&lsb AProduct.beq x.Products.l y.Products.l&&lsb AAccount.beq x.Accounts.l y.Accounts.l&&lsb AEntry.beq x.Journal.l y.Journal.l&&lsb AHold.beq x.Holds.l y.Holds.l&&lsb ABlock.beq x.Blocks.l y.Blocks.l
theorem ABooks.beq_refl(x:ABooks):ABooks.beq x x=true:=by
 simp only[ABooks.beq,qf2 ACurrency.beq_refl,qf2 ACalendar.beq_refl,qf2 AGl.beq_refl,APlan.beq_refl,qf2 AProduct.beq_refl,qf2 AAccount.beq_refl,qf2 AEntry.beq_refl,qf2 AHold.beq_refl,qf2 ABlock.beq_refl,Bool.and_true]
def AValue.beq(x y:AValue):Bool:=ibq x.Typ y.Typ&&ibq x.N y.N
theorem AValue.beq_refl(x:AValue):AValue.beq x x=true:=by
 simp only[AValue.beq,qeF,Bool.and_true]
section
attribute [local simp ↓] qdZ qdX qdP qdY qdM qdQ qdN qdO sqK blK lpK qd4 qd2 qd0 qd3 qd1 qdI qdK qeu qdo qdm qdn qdr qcS qcT qcD qcG qcR qcV qcF qcW qcL qcN qcO qcP qcU qcQ qcE qcH qcj qcI qcM qdk qdh qcY qcX qc6 qcZ qbu qbC qc0 qc1 qd6 qcu qd5 qes qcz qdc qdd qc7 qc9 qc8 qcl qdl qcn qc3 qdg qdb qda qc5 qc4 qdf qdi qc2 qde qdJ qck qcy qdz qcw qbR qdA qco qcp qdj qbV qer qcJ qdp qdq qd8 qet qd7 qdR qdS qdT qdU qdV qdW qcK qdy qew qeP qeQ qeN qeO qeM qev qeT qeR qfn qeS qfs qfJ qcm
attribute [local simp] qbO qd9 qea qdE qdF qds qdt qep qeq qdB qdC rd IOp.adds qaq gh nid rgK rdS qdG qdH qeb qec qeg qeh qek qef qej qei qcC qcA qcB qee qed qdx qdw qem qel qen qeo qeC qeB qeE qeD qeH qeA qeI qfq qfj qfp qfo
theorem qzh{e:DV}(h:XE e):∃a:AExpr,e=a.dv∧a.ok:=by
 cases h with
 |mk o n s a h1 h2 h3 h4 =>
  cases h4 with
  |mk es h5 h6 h7=>exact⟨⟨o,n,s,⟨es,false⟩⟩,rfl,h1,h2,h3,.mk es h5 h6 h7⟩
theorem qt2{es:List DV}{t:Bool}(h:XL (.l (K1 4) es t)):es.length≤maxLen∧∃l:List AExpr,es=l.map AExpr.dv∧∀a∈l,a.ok:=by
 cases h with
 |mk _ h5 h6=>exact⟨h5,qon fun e he=>qzh (h6 e he)⟩
theorem qzd{x a:AExpr}(h:a.dv∈x.Args.l):SizeOf.sizeOf a.dv<SizeOf.sizeOf x.dv:=by
 have h1:=List.sizeOf_lt_of_mem h
 have h2:SizeOf.sizeOf x.Args.l<SizeOf.sizeOf x.dv:=by
  simp only[AExpr.dv,DV.a.sizeOf_spec,List.cons.sizeOf_spec,DV.l.sizeOf_spec];omega
 omega
end
noncomputable def tabV:PT :=
 (.bin 884 qlK (.bin 684 qi5 (.bin 71 F71 (.bin 65 F65 (.bin 39 F39 (.bin 22 F22 .nil .nil) .nil) (.bin 66 F66 .nil .nil)) (.bin 265 qi2 (.bin 72 F72 .nil .nil) (.bin 544 qj5 .nil .nil))) (.bin 880 qj7 (.bin 801 F801 (.bin 708 qlB .nil .nil) (.bin 879 qlH .nil .nil)) (.bin 882 qlI (.bin 881 F881 .nil .nil) (.bin 883 qlJ .nil .nil)))) (.bin 1038 qfV (.bin 1033 qk5 (.bin 934 qlN (.bin 933 F933 (.bin 885 qlL .nil .nil) .nil) (.bin 1030 F1030 .nil .nil)) (.bin 1036 F1036 (.bin 1035 F1035 .nil .nil) (.bin 1037 F1037 .nil .nil))) (.bin 1047 F1047 (.bin 1045 F1045 (.bin 1039 F1039 .nil .nil) (.bin 1046 qk7 .nil .nil)) (.bin 1051 qla (.bin 1050 qk9 .nil .nil) (.bin 1060 qld .nil .nil)))))
abbrev HV(T:Tab):Prop:=∀n F,tabV.get n=some F→T.F n=some F
section
attribute [local simp ↓] qdZ qdX qdP qdY qdM qdQ qdN qdO sqK blK lpK qd4 qd2 qd0 qd3 qd1 qdI qdK qeu qdo qdm qdn qdr qcS qcT qcD qcG qcR qcV qcF qcW qcL qcN qcO qcP qcU qcQ qcE qcH qcj qcI qcM qdk qdh qcY qcX qc6 qcZ qbu qbC qc0 qc1 qd6 qcu qd5 qes qcz qdc qdd qc7 qc9 qc8 qcl qdl qcn qc3 qdg qdb qda qc5 qc4 qdf qdi qc2 qde qdJ qck qcy qdz qcw qbR qdA qco qcp qdj qbV qer qcJ qdp qdq qd8 qet qd7 qdR qdS qdT qdU qdV qdW qcK qdy qew qeP qeQ qeN qeO qeM qev qeT qeR qfn qeS qfs qfJ qcm
attribute [local simp] qbO qd9 qea qdE qdF qds qdt qep qeq qdB qdC rd IOp.adds qaq gh nid rgK rdS qdG qdH qeb qec qeg qeh qek qef qej qei qcC qcA qcB qee qed qdx qdw qem qel qen qeo qeC qeB qeE qeD qeH qeA qeI qfq qfj qfp qfo
def qbh(d:Int):Bool:=decide (0≤d)&&decide (d≤73048)
def qfP(y:Int):Bool:=(y.tmod 4==0)&&((y.tmod 100 != 0)||(y.tmod 400==0))
def lnI(y m:Int):Int:=if m=2 then (if qfP y=true then 29 else 28)else if m=4∨m=6∨m=9∨m=11 then 30 else if m=1∨m=3∨m=5∨m=7∨m=8∨m=10∨m=12 then 31 else 0
def bgI(y:Int):Int:=365*(y-2000)+(y-2000+3)/4-(if 2100<y then 1 else 0)
def cmI(y:Int):Nat→Int
 | 0=>0
 |n+1=>cmI y n+lnI y (1+n)
theorem qo0(T:Tab)(hT:HV T)(d:Int):T.val 22 [I d]=some (.d (.b (qbh d)),false):=by
 rw[qab T (hT 22 F22 rfl) rfl];simp[F22,Fr.ofArgs,qbh];repeat' (refine qat (fun h => ?_) (fun h => ?_)<;>(try simp at h)<;>(try simp[h]))
 all_goals omega
theorem qtr(T:Tab)(hT:HV T)(d:Int):T.val 544 [I d]=some (.d (.b (qbh d)),false):=by
 rw[qab T (hT 544 qj5 rfl) rfl];simp[qj5,Fr.ofArgs,qbh];repeat' (refine qat (fun h => ?_) (fun h => ?_)<;>(try simp at h)<;>(try simp[h]))
 all_goals omega
theorem qK0(T:Tab)(hT:HV T)(y:Int):T.val 66 [I y]=some (.d (.b (qfP y)),false):=by
 rw[qab T (hT 66 F66 rfl) rfl];simp[F66,Fr.ofArgs,qfP];repeat' (refine qat (fun h => ?_) (fun h => ?_)<;>(try simp at h)<;>(try simp[h]))
 all_goals simp_all
theorem qyi(T:Tab)(hT:HV T)(y:Int):T.val 1060 [I y]=some (.d (.b (qfP y)),false):=by
 rw[qab T (hT 1060 qld rfl) rfl];simp[qld,Fr.ofArgs,qfP];repeat' (refine qat (fun h => ?_) (fun h => ?_)<;>(try simp at h)<;>(try simp[h]))
 all_goals simp_all
theorem qyd(T:Tab)(hT:HV T)(y:Int):T.val 1050 [I y]=some (.d (I (if qfP y=true then 366 else 365)),false):=by
 rw[qab T (hT 1050 qk9 rfl) rfl];have e:=qyi T hT y
 simp[qk9,Fr.ofArgs,e];repeat' (refine qat (fun h => ?_) (fun h => ?_)<;>(try simp at h)<;>(try simp[h]))
 all_goals simp_all
theorem qye(T:Tab)(hT:HV T)(y m:Int):T.val 1051 [I y,I m]=some (.d (I (lnI y m)),false):=by
 rw[qab T (hT 1051 qla rfl) rfl];have e:=qyi T hT y
 simp[qla,Fr.ofArgs];repeat' (refine qat (fun h => ?_) (fun h => ?_)<;>(try simp at h)<;>(try simp[h,e]))
 all_goals simp_all[lnI]
theorem qo3(T:Tab)(hT:HV T)(y:Int)(h1:2000≤y)(h2:y≤3000):T.val 71 [I y]=some (.d (I (bgI y)),false):=by
 rw[qab T (hT 71 F71 rfl) rfl];have w1:IntKind.i64.wrap (y-2000)=y-2000:=wrI (by omega) (by omega)
 have w2:IntKind.i64.wrap (y-2000+3)=y-2000+3:=wrI (by omega) (by omega)
 have q:(y-2000+3).tdiv 4=(y-2000+3)/4:=Int.tdiv_eq_ediv_of_nonneg (by omega)
 have w3:IntKind.i64.wrap ((y-2000+3)/4)=(y-2000+3)/4:=wrI (by omega) (by omega)
 have w4:IntKind.i64.wrap (365*(y-2000))=365*(y-2000):=wrI (by omega) (by omega)
 have w5:IntKind.i64.wrap ((y-2000+3)/4-1)=(y-2000+3)/4-1:=wrI (by omega) (by omega)
 have w6:IntKind.i64.wrap (365*(y-2000)+((y-2000+3)/4-1))=365*(y-2000)+((y-2000+3)/4-1):=wrI (by omega) (by omega)
 have w7:IntKind.i64.wrap (365*(y-2000)+(y-2000+3)/4)=365*(y-2000)+(y-2000+3)/4:=wrI (by omega) (by omega)
 simp[F71,Fr.ofArgs,w1,w2,q,w3];repeat' (refine qat (fun h => ?_) (fun h => ?_)<;>(try simp at h)<;>(try simp[w1,q,w3,w4,w5,w6,w7]))
 all_goals
  simp_all[bgI]
  try omega
theorem qy0{R:Type}{y:List PV→Option R}:bo (qfu [PV.d (I 0),PV.d (I 0),PV.d (I 0),PV.d (I 0),PV.d (I 0),PV.d (I 0),PV.d (I 0),PV.d (I 0),PV.d (I 0),PV.d (I 0),PV.d (I 0),PV.d (I 0),PV.d (I 0)] [(0,K0,.d (I 0)),(1,K0,.d (I 31)),(2,K0,.d (I 28)),(3,K0,.d (I 31)),(4,K0,.d (I 30)),(5,K0,.d (I 31)),(6,K0,.d (I 30)),(7,K0,.d (I 31)),(8,K0,.d (I 31)),(9,K0,.d (I 30)),(10,K0,.d (I 31)),(11,K0,.d (I 30)),(12,K0,.d (I 31))]) (.h y)=y [.d (I 0),.d (I 31),.d (I 28),.d (I 31),.d (I 30),.d (I 31),.d (I 30),.d (I 31),.d (I 31),.d (I 30),.d (I 31),.d (I 30),.d (I 31)]:=rfl
theorem qDG:mkA [.d (I 0),.d (I 31),.d (I 28),.d (I 31),.d (I 30),.d (I 31),.d (I 30),.d (I 31),.d (I 31),.d (I 30),.d (I 31),.d (I 30),.d (I 31)] = .d (.a [I 0,I 31,I 28,I 31,I 30,I 31,I 30,I 31,I 31,I 30,I 31,I 30,I 31]):=rfl
theorem qo4(T:Tab)(hT:HV T)(y m:Int)(h1:1≤m)(h2:m≤12):T.val 72 [I y,I m]=some (.d (I (lnI y m)),false):=by
 rw[qab T (hT 72 F72 rfl) rfl];have e:=qK0 T hT y
 have g:([I 0,I 31,I 28,I 31,I 30,I 31,I 30,I 31,I 31,I 30,I 31,I 30,I 31]:List DV)[m.toNat]? = some (I (if m=2 then 28 else lnI y m)):=by
  have:m=1∨m=2∨m=3∨m=4∨m=5∨m=6∨m=7∨m=8∨m=9∨m=10∨m=11∨m=12:=by omega
  rcases this with rfl|rfl|rfl|rfl|rfl|rfl|rfl|rfl|rfl|rfl|rfl|rfl<;>rfl
 have h3:0≤m:=by omega
 have h4:m<13:=by omega
 have h5:m.toNat<13:=by omega
 simp[F72,Fr.ofArgs,qaA,qy0,qDG];repeat' (refine qat (fun h => ?_) (fun h => ?_)<;>(try simp at h)<;>(try simp[h,e,qzj,qqh,h3,h4,h5,qax,DV.cells]))
 all_goals simp_all[lnI]
theorem qqK{g:Nat→Int}{x:Int}:∀(N:Nat),g 0≤x→x<g N→∃n,n<N∧g n≤x∧x<g (n+1)
 | 0,h0,h1=>absurd h1 (by omega)
 |N+1,h0,h1=>by
  by_cases h:x<g N
  ·obtain⟨n,a,b,c⟩:=qqK N h0 h;exact⟨n,by omega,b,c⟩
  ·exact⟨N,by omega,by omega,h1⟩
theorem qBZ{y:Int}(h1:2000≤y)(h2:y<2200):qfP y=true↔(y%4=0∧y≠2100):=by
 unfold qfP;rw[Int.tmod_eq_emod_of_nonneg (by omega),Int.tmod_eq_emod_of_nonneg (by omega),Int.tmod_eq_emod_of_nonneg (by omega)]
 simp only[zzf,Bool.or_eq_true,beq_iff_eq,bne_iff_ne,ne_eq];omega
theorem qqe{y:Int}(h1:2000≤y)(h2:y<2200):bgI (y+1)=bgI y+(if qfP y=true then 366 else 365):=by
 have h:=qBZ h1 h2
 unfold bgI;by_cases g:qfP y=true
 ·rw[if_pos g];have:=h.1 g;split<;>split<;>omega
 ·rw[if_neg g];have:¬(y%4=0∧y≠2100):=fun q=>g (h.2 q)
  split<;>split<;>omega
theorem qzT(y:Int):cmI y 12=if qfP y=true then 366 else 365:=by
 simp only[cmI,lnI];cases qfP y<;>simp
def Civ(d:Int)(n m:Nat):Prop:=n<200∧bgI (2000+n)≤d∧d<bgI (2000+n+1)∧m<12∧cmI (2000+n) m≤d-bgI (2000+n)∧d-bgI (2000+n)<cmI (2000+n) (m+1)
theorem qnI{d:Int}(h:qbh d=true):∃n m,Civ d n m:=by
 simp only[qbh,zzf,zzq]at h;obtain⟨n,h1,h2,h3⟩:=qqK (g:=fun n=>bgI (2000+n)) (x:=d) 200 (by simp[bgI];omega) (by simp[bgI];omega)
 have h3':d<bgI (2000+n+1):=by simpa[Int.add_assoc]using h3
 have h4:=qqe (y:=2000+n) (by omega) (by omega)
 obtain⟨m,h5,h6,h7⟩:=qqK (g:=cmI (2000+n)) (x:=d-bgI (2000+n)) 12 (by simp only[cmI];omega) (by rw[qzT];omega)
 exact⟨n,m,h1,h2,h3',h5,h6,h7⟩
theorem qjD{y:Int}{m:Int}(h1:1≤m)(h2:m≤12):28≤lnI y m∧lnI y m≤31:=by
 unfold lnI;(repeat' split)<;>omega
theorem qjl(y:Int):∀{a b:Nat},a≤b→b≤12→cmI y a≤cmI y b
 |a,0,h,_=>by
  obtain rfl:a=0:=by omega
  exact Int.le_refl _
 |a,b+1,h,hb=>by
  by_cases e:a=b+1
  ·subst e;exact Int.le_refl _
  ·have:=qjl y (a:=a) (b:=b) (by omega) (by omega)
   have:=qjD (y:=y) (m:=1+b) (by omega) (by omega)
   simp only[cmI];omega
theorem qg8{a b:Nat}(h:a≤b):bgI (2000+a)≤bgI (2000+b):=by
 unfold bgI;split<;>split<;>omega
theorem bg0:bgI 2000=0:=by decide
theorem qjj{d:Int}{n m:Nat}(h:Civ d n m):0≤d∧d≤73048:=by
 obtain⟨h1,h2,h3,-⟩:=h
 have:=qg8 (a:=0) (b:=n) (by omega)
 have b:=qg8 (a:=n+1) (b:=200) (by omega)
 have e:bgI (2000+(200:Nat))=73049:=by decide
 have e0:bgI (2000+(0:Nat))=0:=by decide
 rw[show (2000:Int)+((n+1:Nat):Int)=2000+n+1 by omega]at b
 omega
theorem qC0(T:Tab)(hT:HV T)(d:Int)(n m:Nat)(h:Civ d n m){k:KC (PV×Bool)}{fr:Fr}{H:Heap}(h0:gc [0,5] 0 ⟨fr,H⟩=⟨[(5,.d (I (2000+d/366))),(0,.d (I d))],[]⟩) :
  kC T.env 0 fr H (.h (.loop [0,5] qpJ,k))=k (.exit 0) [(17,.d (.b false)),(5,.d (I (2000+n))),(0,.d (I d))] []:=by
 obtain⟨hp,hp2⟩:=qjj h;obtain⟨h1,h2,h3,-⟩:=h;obtain⟨q,hq⟩:∃q:Nat,(q:Int)=d/366:=⟨(d/366).toNat,by omega⟩
 have hqd:bgI (2000+q)≤d:=by unfold bgI;split<;>omega
 have hqn:q≤n:=by
  by_cases g:q≤n
  ·exact g
  ·have:=qg8 (a:=n+1) (b:=q) (by omega)
   rw[show (2000:Int)+((n+1:Nat):Int)=2000+n+1 by omega]at this
   omega
 refine qf1 (fun y:Int=>⟨[(5,.d (I y)),(0,.d (I d))],[]⟩) (fun i=>2000+((q+i:Nat):Int)) (n-q) ?_ ?_ (by rw[h0,←hq];simp)
 ·intro B _;simp only[Nat.add_sub_cancel' hqn];have w:IntKind.i64.wrap (2000+(n:Int)+1)=2000+n+1:=wrI (by omega) (by omega)
  have e:=qo3 T hT (2000+n+1) (by omega) (by omega)
  have g:¬bgI (2000+n+1)≤d:=by omega
  simp[w,e,g]
 ·intro B _ i hi c hc;obtain⟨z,hz⟩:∃z:Int,2000+((q+i:Nat):Int)=z:=⟨_,rfl⟩;have hz':2000+((q+(i+1):Nat):Int)=z+1:=by omega
  have b:=qg8 (a:=q+(i+1)) (b:=n) (by omega)
  simp only[hz']at hc b;simp only[hz];have w:IntKind.i64.wrap (z+1)=z+1:=wrI (by omega) (by omega)
  have e:=qo3 T hT (z+1) (by omega) (by omega)
  have g:bgI (z+1)≤d:=by omega
  simp[w,e,g];exact hc _ _ (by simp[gc,Fr.keep,qaf,qae,qad,PV.refs,gcH,PV.ren,Obj.ren,Heap.obj,Fr.ren,gh])
theorem qC1(T:Tab)(hT:HV T)(d:Int)(n m:Nat)(h:Civ d n m){k:KC (PV×Bool)}{fr:Fr}{H:Heap}(h0:gc [0,5,6] 0 ⟨fr,H⟩=⟨[(6,.d (I 1)),(5,.d (I (2000+n))),(0,.d (I (d-bgI (2000+n))))],[]⟩) :
  kC T.env 0 fr H (.h (.loop [0,5,6] qpK,k))=k (.exit 2) [(28,.d (.b false)),(6,.d (I (1+m))),(5,.d (I (2000+n))),(0,.d (I (d-bgI (2000+n)-cmI (2000+n) m)))] []:=by
 obtain⟨hp,hp2⟩:=qjj h;obtain⟨h1,h2,h3,h4,h5,h6⟩:=h;generalize hy:(2000:Int)+n=y at *
 have hb:=qg8 (a:=0) (b:=n) (by omega)
 rw[hy,show (2000:Int)+((0:Nat):Int)=2000 by simp,bg0]at hb
 refine qf1 (fun s:Int×Int=>⟨[(6,.d (I s.1)),(5,.d (I y)),(0,.d (I s.2))],[]⟩) (fun i=>(1+(i:Int),d-bgI y-cmI y i)) m ?_ ?_ (by rw[h0];simp[cmI])
 ·intro B _;have e:=qo4 T hT y (1+m) (by omega) (by omega)
  have g:¬lnI y (1+m)≤d-bgI y-cmI y m:=by simp only[cmI]at h6;omega
  simp[e,g]
 ·intro B _ i hi c hc;have e:=qo4 T hT y (1+i) (by omega) (by omega)
  have l:=qjl y (a:=i+1) (b:=m) (by omega) (by omega)
  have l0:=qjl y (a:=0) (b:=i+1) (by omega) (by omega)
  simp only[cmI]at l l0;have g:lnI y (1+i)≤d-bgI y-cmI y i:=by omega
  have w:IntKind.i64.wrap (1+(i:Int)+1)=1+(i:Int)+1:=wrI (by omega) (by omega)
  have w2:IntKind.i64.wrap (d-bgI y-cmI y i-lnI y (1+i))=d-bgI y-cmI y (i+1):=by
   have:=qjD (y:=y) (m:=1+i) (by omega) (by omega)
   rw[wrI (by omega) (by omega)];simp only[cmI];omega
  simp[w,e,g,w2];exact hc _ _ (by simp[gc,Fr.keep,qaf,qae,qad,PV.refs,gcH,PV.ren,Obj.ren,Heap.obj,Fr.ren,gh];omega)
theorem qKZ(T:Tab)(hT:HV T)(d:Int)(n m:Nat)(h:Civ d n m):T.val 65 [I d]=some (.t [.d (I (2000+n)),.d (I (1+m)),.d (I (d-bgI (2000+n)-cmI (2000+n) m+1))],false):=by
 rw[qab T (hT 65 F65 rfl) rfl];obtain⟨hp,hp2⟩:=qjj h;have hv:qbh d=true:=by simp[qbh,hp,hp2]
 have e:=qo0 T hT d
 have q:d.tdiv 366=d/366:=Int.tdiv_eq_ediv_of_nonneg hp
 have w1:IntKind.i64.wrap (d/366)=d/366:=wrI (by omega) (by omega)
 have w2:IntKind.i64.wrap (2000+d/366)=2000+d/366:=wrI (by omega) (by omega)
 rw[hv]at e;have lp:=fun k fr H => @qC0 T hT d n m h k fr H
 have lp2:=fun k fr H => @qC1 T hT d n m h k fr H
 have e2:=qo3 T hT (2000+n) (by omega) (by have:=h.1;omega)
 have hb:=qg8 (a:=0) (b:=n) (by omega)
 rw[show (2000:Int)+((0:Nat):Int)=2000 by simp,bg0]at hb
 have h2:=h.2.1
 have w3:IntKind.i64.wrap (d-bgI (2000+n))=d-bgI (2000+n):=wrI (by omega) (by omega)
 have l0:=qjl (2000+n) (a:=0) (b:=m) (by omega) (by have:=h.2.2.2.1;omega)
 have h5:=h.2.2.2.2.1
 simp only[cmI]at l0;have w4:IntKind.i64.wrap (d-bgI (2000+n)-cmI (2000+n) m+1)=d-bgI (2000+n)-cmI (2000+n) m+1:=wrI (by omega) (by omega)
 simp[F65,Fr.ofArgs,e,q,w1,w2];refine (lp _ _ _ (by simp[gc,Fr.keep,qaf,qae,qad,PV.refs,gcH,PV.ren,Obj.ren,Heap.obj,Fr.ren,gh])).trans ?_
 simp[e2,w3];refine (lp2 _ _ _ (by simp[gc,Fr.keep,qaf,qae,qad,PV.refs,gcH,PV.ren,Obj.ren,Heap.obj,Fr.ren,gh])).trans ?_
 simp[w4];try rfl
theorem qCz(T:Tab)(hT:HV T)(d:Int)(n m:Nat)(h:Civ d n m){k:KC (PV×Bool)}{fr:Fr}{H:Heap}(h0:gc [0,5,6] 0 ⟨fr,H⟩=⟨[(6,.d (I 1)),(5,.d (I 2000)),(0,.d (I d))],[]⟩) :
  kC T.env 0 fr H (.h (.loop [0,5,6] qpq,k))=k (.exit 0) [(13,.d (.b false)),(6,.d (I 1)),(5,.d (I (2000+n))),(0,.d (I (d-bgI (2000+n))))] []:=by
 obtain⟨hp,hp2⟩:=qjj h;obtain⟨h1,h2,h3,-⟩:=h;refine qf1 (fun s:Int×Int=>⟨[(6,.d (I 1)),(5,.d (I s.1)),(0,.d (I s.2))],[]⟩) (fun i=>(2000+(i:Int),d-bgI (2000+(i:Int)))) n ?_ ?_ (by rw[h0];simp[bg0])
 ·intro B _;have e:=qyd T hT (2000+n)
  have s:=qqe (y:=2000+n) (by omega) (by omega)
  have g:¬(if qfP (2000+(n:Int))=true then (366:Int)else 365)≤d-bgI (2000+n):=by omega
  simp[e,g]
 ·intro B _ i hi c hc;have e:=qyd T hT (2000+i)
  have s:=qqe (y:=2000+i) (by omega) (by omega)
  have b:=qg8 (a:=i+1) (b:=n) (by omega)
  have b0:=qg8 (a:=0) (b:=i) (by omega)
  have z:(2000:Int)+((i+1:Nat):Int)=2000+i+1:=by omega
  rw[show (2000:Int)+((0:Nat):Int)=2000 by simp,bg0]at b0
  rw[z]at b;simp only[z]at hc;generalize hy:(2000:Int)+i=y at *
  have g:(if qfP y=true then (366:Int)else 365)≤d-bgI y:=by omega
  have w:IntKind.i64.wrap (y+1)=y+1:=wrI (by omega) (by omega)
  have w2:IntKind.i64.wrap (d-bgI y-if qfP y=true then (366:Int)else 365)=d-bgI (y+1):=by
   rw[wrI (by split<;>omega) (by split<;>omega)];omega
  simp[w,e,g,w2];exact hc _ _ (by simp[gc,Fr.keep,qaf,qae,qad,PV.refs,gcH,PV.ren,Obj.ren,Heap.obj,Fr.ren,gh])
theorem qCA(T:Tab)(hT:HV T)(d:Int)(n m:Nat)(h:Civ d n m){k:KC (PV×Bool)}{fr:Fr}{H:Heap}(h0:gc [0,5,6] 0 ⟨fr,H⟩=⟨[(6,.d (I 1)),(5,.d (I (2000+n))),(0,.d (I (d-bgI (2000+n))))],[]⟩) :
  kC T.env 0 fr H (.h (.loop [0,5,6] qpr,k))=k (.exit 2) [(24,.d (.b false)),(6,.d (I (1+m))),(5,.d (I (2000+n))),(0,.d (I (d-bgI (2000+n)-cmI (2000+n) m)))] []:=by
 obtain⟨hp,hp2⟩:=qjj h;obtain⟨h1,h2,h3,h4,h5,h6⟩:=h;generalize hy:(2000:Int)+n=y at *
 have hb:=qg8 (a:=0) (b:=n) (by omega)
 rw[hy,show (2000:Int)+((0:Nat):Int)=2000 by simp,bg0]at hb
 refine qf1 (fun s:Int×Int=>⟨[(6,.d (I s.1)),(5,.d (I y)),(0,.d (I s.2))],[]⟩) (fun i=>(1+(i:Int),d-bgI y-cmI y i)) m ?_ ?_ (by rw[h0];simp[cmI])
 ·intro B _;have e:=qye T hT y (1+m)
  have g:¬lnI y (1+m)≤d-bgI y-cmI y m:=by simp only[cmI]at h6;omega
  simp[e,g]
 ·intro B _ i hi c hc;have e:=qye T hT y (1+i)
  have l:=qjl y (a:=i+1) (b:=m) (by omega) (by omega)
  have l0:=qjl y (a:=0) (b:=i+1) (by omega) (by omega)
  simp only[cmI]at l l0;have g:lnI y (1+i)≤d-bgI y-cmI y i:=by omega
  have w:IntKind.i64.wrap (1+(i:Int)+1)=1+(i:Int)+1:=wrI (by omega) (by omega)
  have w2:IntKind.i64.wrap (d-bgI y-cmI y i-lnI y (1+i))=d-bgI y-cmI y (i+1):=by
   have:=qjD (y:=y) (m:=1+i) (by omega) (by omega)
   rw[wrI (by omega) (by omega)];simp only[cmI];omega
  simp[w,e,g,w2];exact hc _ _ (by simp[gc,Fr.keep,qaf,qae,qad,PV.refs,gcH,PV.ren,Obj.ren,Heap.obj,Fr.ren,gh];omega)
theorem qJR(T:Tab)(hT:HV T)(d:Int)(n m:Nat)(h:Civ d n m):T.val 1045 [I d]=some (.t [.d (I (2000+n)),.d (I (1+m)),.d (I (d-bgI (2000+n)-cmI (2000+n) m+1))],false):=by
 rw[qab T (hT 1045 F1045 rfl) rfl];obtain⟨hp,hp2⟩:=qjj h;have hv:qbh d=true:=by simp[qbh,hp,hp2]
 have e:=qtr T hT d
 rw[hv]at e;have lp:=fun k fr H => @qCz T hT d n m h k fr H
 have lp2:=fun k fr H => @qCA T hT d n m h k fr H
 have hb:=qg8 (a:=0) (b:=n) (by omega)
 rw[show (2000:Int)+((0:Nat):Int)=2000 by simp,bg0]at hb
 have h2:=h.2.1
 have l0:=qjl (2000+n) (a:=0) (b:=m) (by omega) (by have:=h.2.2.2.1;omega)
 have h5:=h.2.2.2.2.1
 simp only[cmI]at l0;have w4:IntKind.i64.wrap (d-bgI (2000+n)-cmI (2000+n) m+1)=d-bgI (2000+n)-cmI (2000+n) m+1:=wrI (by omega) (by omega)
 simp[F1045,Fr.ofArgs,e];refine (lp _ _ _ (by simp[gc,Fr.keep,qaf,qae,qad,PV.refs,gcH,PV.ren,Obj.ren,Heap.obj,Fr.ren,gh])).trans ?_
 simp;refine (lp2 _ _ _ (by simp[gc,Fr.keep,qaf,qae,qad,PV.refs,gcH,PV.ren,Obj.ren,Heap.obj,Fr.ren,gh])).trans ?_
 simp[w4];try rfl
end
section
attribute [local simp ↓] qdZ qdX qdP qdY qdM qdQ qdN qdO sqK blK lpK qd4 qd2 qd0 qd3 qd1 qdI qdK qeu qdo qdm qdn qdr qcS qcT qcD qcG qcR qcV qcF qcW qcL qcN qcO qcP qcU qcQ qcE qcH qcj qcI qcM qdk qdh qcY qcX qc6 qcZ qbu qbC qc0 qc1 qd6 qcu qd5 qes qcz qdc qdd qc7 qc9 qc8 qcl qdl qcn qc3 qdg qdb qda qc5 qc4 qdf qdi qc2 qde qdJ qck qcy qdz qcw qbR qdA qco qcp qdj qbV qer qcJ qdp qdq qd8 qet qd7 qdR qdS qdT qdU qdV qdW qcK qdy qew qeP qeQ qeN qeO qeM qev qeT qeR qfn qeS qfs
attribute [local simp] qbO qd9 qea qdE qdF qds qdt qep qeq qdB qdC rd IOp.adds qaq gh nid rgK rdS qdG qdH qeb qec qeg qeh qek qef qej qei qcC qcA qcB qee qed qdx qdw qem qel qen qeo qeC qeB qeE qeD qeH qeA qeI qfq qfj qfp qfo
theorem qC2(T:Tab)(b:ABooks)(id:Int)(hn:b.Accounts.l.length≤maxLen){k:KC (PV×Bool)}{r:Nat→Option (PV×Bool)}{fr:Fr}{H:Heap}
  (hr:∀(j:Nat) (hj:j<b.Accounts.l.length) fr,fr.get 4 = .p 0 0 0→fr.get 5 = .d (.b true)→qak fr=[]→k .ret fr [some (.box (K1 7) (.d b.Accounts.l[j].dv)),some (.box (K1 22) (.d b.dv))]=r j)
  (h0:gc [1,2,4,6] 0 ⟨fr,H⟩=⟨[(6,.d (I 0)),(4,.p 0 0 0),(2,.p 1 0 0),(1,.d (I id))],[some (.box (K1 7) (.d AAccount.zero.dv)),some (.box (K1 22) (.d b.dv))]⟩) :
  kC T.env 0 fr H (.h (.loop [1,2,4,6] qpL,k))=match b.Accounts.l.findIdx? (qgC id)with|some j=>r j|none=>k (.exit 0) [(11,.d (.b false)),(6,.d (I b.Accounts.l.length)),(4,.p 0 0 0),(2,.p 1 0 0),(1,.d (I id))] [some (.box (K1 7) (.d AAccount.zero.dv)),some (.box (K1 22) (.d b.dv))]:=by
 have hm:=mxl
 rw[qa3 b.Accounts.l (fun i _=>⟨[(6,.d (I i)),(4,.p 0 0 0),(2,.p 1 0 0),(1,.d (I id))],[some (.box (K1 7) (.d AAccount.zero.dv)),some (.box (K1 22) (.d b.dv))]⟩) (fun _ _=>True) (fun i _ x c=>if qgC id x=true then r i else c ()) (fun _=>k (.exit 0) [(11,.d (.b false)),(6,.d (I b.Accounts.l.length)),(4,.p 0 0 0),(2,.p 1 0 0),(1,.d (I id))] [some (.box (K1 7) (.d AAccount.zero.dv)),some (.box (K1 22) (.d b.dv))]) ?_ ?_ h0 trivial]
 ·rw[qoO (qgC id) r _ _ (fun _ _ _ _=>rfl)]
  simp only[Nat.zero_add];try rfl
 ·intro B _ _ _;simp
 ·intro B _ i _ hi _ c hc;have h1:(i:Int)<b.Accounts.l.length:=by omega
  have h3:=wr1 (i:=i) (by omega)
  simp[h1,hi];repeat' (refine qat (fun h => ?_) (fun h => ?_)<;>(try simp at h)<;>(try simp[h1,hi,h3]))
  ·rw[if_pos (by simp[qgC, *])];exact hr i hi _ (by simp[Fr.get]) (by simp[Fr.get]) (by simp[qak,gh])
  ·rw[if_neg (by simp[qgC, *])];exact hc () _ _ trivial (by simp[gc,Fr.keep,qaf,qae,qad,PV.refs,qaj,gcH,qai,Obj.refs,PV.ren,Obj.ren,Heap.obj,Fr.ren,gh,zzd])
theorem qm6(T:Tab)(hT:HU T)(b:ABooks)(id:Int)(hb:b.ok):T.val 683 [b.dv,I id]=some (.t [.d ((qb6 b id).getD .zero).dv,.d (.b (qb6 b id).isSome)],false):=by
 rw[qab T (hT 683 F683 rfl) rfl];have lp:=fun k r fr H => @qC2 T b id (hb.2.2.2.2.2.1).1 k r fr H
 simp[F683,Fr.ofArgs];refine (lp _ (fun j=>some (.t [.d ((b.Accounts.l[j]?).getD .zero).dv,.d (.b true)],false)) _ _ ?_ (by simp[gc,Fr.keep,qaf,qae,qad,PV.refs,qaj,gcH,qai,Obj.refs,PV.ren,Obj.ren,Heap.obj,Fr.ren,gh,zzd,AAccount.zero,AAccount.dv])).trans ?_
 ·intro j hj fr h4 h5 hg;have he:b.Accounts.l[j]? = some b.Accounts.l[j]:=zze hj
  simp[h4,h5,hg,qbR,he]
 ·unfold qb6;cases hf:b.Accounts.l.findIdx? (qgC id)with
  |none =>
   simp;try rfl
  |some j =>
   have hj:j<b.Accounts.l.length:=(List.findIdx?_eq_some_iff_findIdx_eq.1 hf).1
   have he:b.Accounts.l[j]? = some b.Accounts.l[j]:=zze hj
   simp[he]
theorem qCZ(T:Tab)(l:List AProduct)(t:Bool)(nm:List UInt8)(day:Int)(hn:l.length≤maxLen){k:KC (PV×Bool)}{fr:Fr}{H:Heap}
    (h0:gc [0,1,2,6,8,9] 0 ⟨fr,H⟩=⟨[(9,.d (I 0)),(8,.d (I (-1))),(6,.p 0 0 0),(2,.d (I day)),(1,.d (.s nm)),(0,.d (.l (K1 19) (l.map AProduct.dv) t))],[some (.box (K1 19) (.d AProduct.zero.dv))]⟩) :
    kC T.env 0 fr H (.h (.loop [0,1,2,6,8,9] qlZ,k))=k (.exit 0) [(13,.d (.b false)),(9,.d (I l.length)),(8,.d (I (bst l nm day))),(6,.p 0 0 0),(2,.d (I day)),(1,.d (.s nm)),(0,.d (.l (K1 19) (l.map AProduct.dv) t))] [some (.box (K1 19) (.d AProduct.zero.dv))]:=by
  rw[qa3 l (fun i b=>⟨[(9,.d (I i)),(8,.d (I b)),(6,.p 0 0 0),(2,.d (I day)),(1,.d (.s nm)),(0,.d (.l (K1 19) (l.map AProduct.dv) t))],[some (.box (K1 19) (.d AProduct.zero.dv))]⟩) inB (fun i b x c=>c (fAt l nm day i b x)) (fun b=>k (.exit 0) [(13,.d (.b false)),(9,.d (I l.length)),(8,.d (I b)),(6,.p 0 0 0),(2,.d (I day)),(1,.d (.s nm)),(0,.d (.l (K1 19) (l.map AProduct.dv) t))] [some (.box (K1 19) (.d AProduct.zero.dv))]) ?_ ?_ h0 (.inl rfl)]
  · rw[qbG (fAt l nm day) _ _ (fun _ _ _ _=>rfl)];rfl
  · intro B _ b _
    simp[qlZ]
  · intro B _ i b hi hv c hc
    have hm:=mxl
    have h1:(i:Int)<l.length:=by omega
    have h3:=wr1 (i:=i) (by omega)
    have hs:=qra l nm day i b l[i] hv
    rcases hv with rfl|⟨j,rfl,hj⟩
    · simp[qlZ,h1,hi,↓qbJ,↓qbx,↓qbS,↓qbt,qby,↓qbw,↓qbv,↓qbz,↓qbD,↓qbX,qbe,writeS,touchS,qaD,qa4,chg,qbb,qaY,qbc,PV.refs,IOp.okD,Nat.testBit]
      repeat' (refine qat (fun h => ?_) (fun h => ?_)<;>(try simp at h)<;>(try simp[h,h1,hi,h3,↓qbT,↓qbx,↓qbS,↓qbt,qby,↓qbw,↓qce,↓qbv,↓qbz,↓qbD,↓qbX,qbe,writeS,touchS,qaD,qa4,chg,qbb,qaY,qbc,PV.refs,PV.refsL,IOp.okD,Nat.testBit]))
      all_goals first
        | (have e:fAt l nm day i (-1) l[i]=(i:Int):=by simp[fAt,cAt, *]
           rw[e]at hs⊢;exact hc _ _ _ hs (by simp[gc,Fr.keep,qaf,qae,qad,PV.refs,qaj,gcH,qai,Obj.refs,PV.ren,Obj.ren,Heap.obj,Fr.ren,gh,zzd]))
        | (have e:fAt l nm day i (-1) l[i] = -1:=by simp[fAt,cAt, *]
           rw[e]at hs⊢;exact hc _ _ _ hs (by simp[gc,Fr.keep,qaf,qae,qad,PV.refs,qaj,gcH,qai,Obj.refs,PV.ren,Obj.ren,Heap.obj,Fr.ren,gh,zzd]))
    · have hj1:j<l.length:=by omega
      have hj2:(j:Int)<l.length:=by omega
      have hg:l[j]? = some l[j]:=zze hj1
      simp[qlZ,h1,hi,↓qbJ,↓qbx,↓qbS,↓qbt,qby,↓qbw,↓qbv,↓qbz,↓qbD,↓qbX,qbe,writeS,touchS,qaD,qa4,chg,qbb,qaY,qbc,PV.refs,IOp.okD,Nat.testBit];repeat' (refine qat (fun h => ?_) (fun h => ?_)<;>(try simp at h)<;>(try simp[h,h1,hi,h3,hj1,hj2,↓qbT,↓qbx,↓qbS,↓qbt,qby,↓qbw,↓qce,↓qbv,↓qbz,↓qbD,↓qbX,qbe,writeS,touchS,qaD,qa4,chg,qbb,qaY,qbc,PV.refs,PV.refsL,IOp.okD,Nat.testBit]))
      all_goals first
        | (have e:fAt l nm day i j l[i]=(i:Int):=by simp[fAt,cAt,frm, *]
           rw[e]at hs⊢;exact hc _ _ _ hs (by simp[gc,Fr.keep,qaf,qae,qad,PV.refs,qaj,gcH,qai,Obj.refs,PV.ren,Obj.ren,Heap.obj,Fr.ren,gh,zzd]))
        | (have e:fAt l nm day i j l[i]=j:=by
             simp[fAt,cAt,frm, *];try omega
           rw[e]at hs⊢;exact hc _ _ _ hs (by simp[gc,Fr.keep,qaf,qae,qad,PV.refs,qaj,gcH,qai,Obj.refs,PV.ren,Obj.ren,Heap.obj,Fr.ren,gh,zzd]))
theorem qKX(T:Tab)(hT:HU T)(l:List AProduct)(t:Bool)(nm:List UInt8)(day:Int)(hn:l.length≤maxLen):T.val 603 [.l (K1 19) (l.map AProduct.dv) t,.s nm,I day]=some (.t [.d ((atP l nm day).getD .zero).dv,.d (.b (atP l nm day).isSome)],false):=by
  rw[qab T (hT 603 qj6 rfl) rfl];have lp:=fun k fr H => @qCZ T l t nm day hn k fr H
  simp[qj6,Fr.ofArgs];refine (lp _ _ _ (by simp[gc,Fr.keep,qaf,qae,qad,PV.refs,qaj,gcH,qai,Obj.refs,PV.ren,Obj.ren,Heap.obj,Fr.ren,gh,zzd];rfl)).trans ?_
  have hb:=quf l nm day
  unfold atP;generalize bst l nm day=b at hb⊢;rcases hb with rfl|⟨j,rfl,hj⟩
  · simp
    try rfl
  · have hj2:(j:Int)<l.length:=by omega
    have hg:l[j]? = some l[j]:=zze hj
    simp[hj,hj2];repeat' (refine qat (fun h => ?_) (fun h => ?_)<;>(try simp at h)<;>(try simp[h,hj,hj2]))
theorem qx7(T:Tab)(hT:HU T)(b:ABooks)(id day:Int)(hb:b.ok):T.val 1023 [b.dv,I id,I day]=some (.t [.d ((qb1 b id day).getD .zero).dv,.d (.b (qb1 b id day).isSome)],false):=by
  rw[qab T (hT 1023 qiU rfl) rfl];have e1:=qm6 T hT b id hb
  have e2:=fun nm=>qKX T hT b.Products.l b.Products.t nm day (hb.2.2.2.2.1).1
  unfold qb1;cases hf:qb6 b id with
  |none =>
    rw[hf]at e1;simp only[Option.getD_none,Option.isSome_none]at e1;simp[qiU,Fr.ofArgs,e1];try rfl
  |some a =>
    rw[hf]at e1;simp only[zzA,zzN]at e1;simp[qiU,Fr.ofArgs,e1,e2]
theorem qJA(T:Tab)(hT:HU T)(b:ABooks)(id day:Int)(hb:b.ok):T.val 1026 [b.dv,I id,I day]=some (.t [.d (I (qgU b id day).1),.d (I (qgU b id day).2)],false):=by
  rw[qab T (hT 1026 qiV rfl) rfl];have e1:=qm6 T hT b id hb
  have e2:=qx7 T hT b id day hb
  unfold qgU;cases hf:qb6 b id with
  |none =>
    rw[hf]at e1;simp only[Option.getD_none,Option.isSome_none]at e1;simp[qiV,Fr.ofArgs,e1,e2]
  |some a =>
    rw[hf]at e1;simp only[zzA,zzN]at e1;cases hp:qb1 b id day with
    |none =>
      rw[hp]at e2;simp only[Option.getD_none,Option.isSome_none]at e2;simp[qiV,Fr.ofArgs,e1,e2]
    |some p =>
      rw[hp]at e2;simp only[zzA,zzN]at e2;simp[qiV,Fr.ofArgs,e1,e2,w64]
end
section
attribute [local simp ↓] qdZ qdX qdP qdY qdM qdQ qdN qdO sqK blK lpK qd4 qd2 qd0 qd3 qd1 qdI qdK qeu qdo qdm qdn qdr qcS qcT qcD qcG qcR qcV qcF qcW qcL qcN qcO qcP qcU qcQ qcE qcH qcj qcI qcM qdk qdh qcY qcX qc6 qcZ qbu qbC qc0 qc1 qd6 qcu qd5 qes qcz qdc qdd qc7 qc9 qc8 qcl qdl qcn qc3 qdg qdb qda qc5 qc4 qdf qdi qc2 qde qdJ qck qcy qdz qcw qbR qdA qco qcp qdj qbV qer qcJ qdp qdq qd8 qet qd7 qdR qdS qdT qdU qdV qdW qcK qdy qew qeP qeQ qeN qeO qeM qev qeT qeR qfn qeS qfs qfJ qcm
attribute [local simp] qbO qd9 qea qdE qdF qds qdt qep qeq qdB qdC rd IOp.adds qaq gh nid rgK rdS qdG qdH qeb qec qeg qeh qek qef qej qei qcC qcA qcB qee qed qdx qdw qem qel qen qeo qeC qeB qeE qeD qeH qeA qeI qfq qfj qfp qfo
theorem qqd{y:Int}(h:2000≤y)(h2:y≤2200):0≤bgI y∧bgI y≤73049:=by
 unfold bgI;split<;>omega
theorem qqo(y:Int):∀m:Nat,m≤12→0≤cmI y m∧cmI y m≤31*m
 | 0,_=>⟨Int.le_refl _,Int.le_refl _⟩
 |m+1,h=>by
  have:=qqo y m (by omega)
  have:=qjD (y:=y) (m:=1+m) (by omega) (by omega)
  simp only[cmI];omega
theorem qDj(T:Tab)(hT:HV T)(y d:Int)(m:Nat)(hm:m<12)(hy:2000≤y)(hy2:y≤2200)(hd:0≤d)(hd2:d<1000){k:KC (PV×Bool)}{fr:Fr}{H:Heap}(h0:gc [0,1,8,9] 0 ⟨fr,H⟩=⟨[(9,.d (I 1)),(8,.d (I (bgI y+d))),(1,.d (I (1+m))),(0,.d (I y))],[]⟩) :
  kC T.env 0 fr H (.h (.loop [0,1,8,9] qpW,k))=k (.exit 0) [(42,.d (.b false)),(9,.d (I (1+m))),(8,.d (I (bgI y+d+cmI y m))),(1,.d (I (1+m))),(0,.d (I y))] []:=by
 have hb:=qqd hy hy2
 refine qf1 (fun s:Int×Int=>⟨[(9,.d (I s.1)),(8,.d (I s.2)),(1,.d (I (1+m))),(0,.d (I y))],[]⟩) (fun i=>(1+(i:Int),bgI y+d+cmI y i)) m ?_ ?_ (by rw[h0];simp[cmI])
 ·intro B _;simp
 ·intro B _ i hi c hc;have e:=qo4 T hT y (1+i) (by omega) (by omega)
  have g:(1:Int)+i<1+m:=by omega
  have g2:((i:Int)<m):=by omega
  have w:IntKind.i64.wrap (1+(i:Int)+1)=1+(i:Int)+1:=wrI (by omega) (by omega)
  have w2:IntKind.i64.wrap (bgI y+d+cmI y i+lnI y (1+i))=bgI y+d+cmI y (i+1):=by
   have:=qjD (y:=y) (m:=1+i) (by omega) (by omega)
   have:=qqo y i (by omega)
   rw[wrI (by omega) (by omega)];simp only[cmI];omega
  simp[w,e,g,w2];exact hc _ _ (by simp[gc,Fr.keep,qaf,qae,qad,PV.refs,gcH,PV.ren,Obj.ren,Heap.obj,Fr.ren,gh];omega)
theorem qLw(T:Tab)(hT:HV T)(y d:Int)(m:Nat)(hm:m<12)(hy:2000≤y)(hy2:y<2200)(hd:1≤d)(hd2:d≤lnI y (1+m)):T.val 933 [I y,I (1+m),I d]=some (.t [.d (I (bgI y+(d-1)+cmI y m)),.d (I 0)],false):=by
 rw[qab T (hT 933 F933 rfl) rfl];have l:=qjD (y:=y) (m:=1+m) (by omega) (by omega)
 have hb:=qqd hy (by omega)
 have g1:¬y<2000:=by omega
 have g2:¬2199<y:=by omega
 have g3:¬(1+(m:Int)<1):=by omega
 have g4:¬(12<1+(m:Int)):=by omega
 have g5:¬d<1:=by omega
 have g6:¬lnI y (1+m)<d:=by omega
 have e:=qo4 T hT y (1+m) (by omega) (by omega)
 have e2:=qo3 T hT y hy (by omega)
 have w1:IntKind.i64.wrap (bgI y+d)=bgI y+d:=wrI (by omega) (by omega)
 have w2:IntKind.i64.wrap (bgI y+d-1)=bgI y+(d-1):=by rw[wrI (by omega) (by omega)];omega
 have lp:=fun k fr H => @qDj T hT y (d-1) m hm hy (by omega) (by omega) (by omega) k fr H
 simp[F933,Fr.ofArgs,g1,g2,g3,g4,g5,g6,e,e2,w1,w2];refine (lp _ _ _ (by simp[gc,Fr.keep,qaf,qae,qad,PV.refs,gcH,PV.ren,Obj.ren,Heap.obj,Fr.ren,gh])).trans ?_
 simp
theorem qLh(T:Tab)(hT:HV T)(d:Int)(n m:Nat)(h:Civ d n m):T.val 879 [I d]=some (.d (I (bgI (2000+n)+cmI (2000+n) m)),false):=by
 rw[qab T (hT 879 qlH rfl) rfl];have e:=qKZ T hT d n m h
 obtain⟨h1,h2,h3,h4,h5,h6⟩:=h;have l:=qjD (y:=2000+n) (m:=1+m) (by omega) (by omega)
 have e2:=qLw T hT (2000+n) 1 m h4 (by omega) (by omega) (by omega) (by omega)
 simp[qlH,Fr.ofArgs,e,e2]
theorem qJG(T:Tab)(hT:HV T)(d:Int)(n m:Nat)(h:Civ d n m):T.val 1033 [I d]=some (.d (I (bgI (2000+n)+cmI (2000+n) m)),false):=by
 rw[qab T (hT 1033 qk5 rfl) rfl];have e:=qJR T hT d n m h
 obtain⟨hp,hp2⟩:=qjj h;obtain⟨h1,h2,h3,h4,h5,h6⟩:=h;have hb:=qqd (y:=2000+n) (by omega) (by omega)
 have hc:=qqo (2000+n) m (by omega)
 have w:IntKind.i64.wrap (d-(d-bgI (2000+n)-cmI (2000+n) m+1))=bgI (2000+n)+cmI (2000+n) m-1:=by rw[wrI (by omega) (by omega)];omega
 have w2:IntKind.i64.wrap (bgI (2000+n)+cmI (2000+n) m-1+1)=bgI (2000+n)+cmI (2000+n) m:=by rw[wrI (by omega) (by omega)];omega
 have w3:IntKind.i64.wrap (bgI (2000+n)+cmI (2000+n) m)=bgI (2000+n)+cmI (2000+n) m:=wrI (by omega) (by omega)
 simp[qk5,Fr.ofArgs,e,w,w3]
noncomputable def mst(d:Int):Int:=if h:qbh d=true then bgI (2000+(Classical.choose (qnI h):Nat))+cmI (2000+(Classical.choose (qnI h):Nat)) (Classical.choose (Classical.choose_spec (qnI h)))else 0
theorem qwE{d:Int}(h:qbh d=true):∃n m,Civ d n m∧mst d=bgI (2000+n)+cmI (2000+n) m:=by
 refine⟨_,_,Classical.choose_spec (Classical.choose_spec (qnI h)),?_⟩;simp only[mst,h,dite_true]
theorem qyK(T:Tab)(hT:HV T)(d:Int)(h:qbh d=true):T.val 879 [I d]=some (.d (I (mst d)),false):=by
 obtain⟨n,m,h1,e⟩:=qwE h;rw[e];exact qLh T hT d n m h1
theorem qya(T:Tab)(hT:HV T)(d:Int)(h:qbh d=true):T.val 1033 [I d]=some (.d (I (mst d)),false):=by
 obtain⟨n,m,h1,e⟩:=qwE h;rw[e];exact qJG T hT d n m h1
def qg6(b:ABooks)(id day:Int):Bool:=match qb6 b id with
 |none=>false
 |some a=>decide (a.Opened≤day)&&((a.Closed==0)||decide (day<a.Closed))
theorem qyw(T:Tab)(hT:HV T)(hU:HU T)(b:ABooks)(id day:Int)(hb:b.ok):T.val 39 [b.dv,I id,I day]=some (.d (.b (qg6 b id day)),false):=by
 rw[qab T (hT 39 F39 rfl) rfl];have e:=qm5 T hU b id hb
 unfold qg6;cases hf:qb6 b id with
 |none =>
  rw[hf]at e;simp only[Option.getD_none,Option.isSome_none]at e;simp[F39,Fr.ofArgs,e]
 |some a =>
  rw[hf]at e;simp only[zzA,zzN]at e;simp[F39,Fr.ofArgs,e];repeat' (refine qat (fun h => ?_) (fun h => ?_)<;>(try simp at h)<;>(try simp[h]))
  all_goals (first|(simp_all;done)|omega)
theorem qyG(T:Tab)(hT:HV T)(hU:HU T)(b:ABooks)(id day:Int)(hb:b.ok):T.val 684 [b.dv,I id,I day]=some (.d (.b (qg6 b id day)),false):=by
 rw[qab T (hT 684 qi5 rfl) rfl];have e:=qm6 T hU b id hb
 unfold qg6;cases hf:qb6 b id with
 |none =>
  rw[hf]at e;simp only[Option.getD_none,Option.isSome_none]at e;simp[qi5,Fr.ofArgs,e]
 |some a =>
  rw[hf]at e;simp only[zzA,zzN]at e;simp[qi5,Fr.ofArgs,e];repeat' (refine qat (fun h => ?_) (fun h => ?_)<;>(try simp at h)<;>(try simp[h]))
  all_goals (first|(simp_all;done)|omega)
def qbI(acc:Int)(_:Nat)(n:Int)(x:ALeg):Int:=if (x.Account==acc)=true then w64 (n-x.Amount)else n
def qhn(acc:Int)(e:AEntry):Int:=qag (qbI acc) 0 0 e.Legs.l
def qfL(acc:Int)(_:Nat)(n:Int)(x:ALeg):Int:=if (x.Account==acc)=true then w64 (n+x.Amount)else n
def qkU(acc:Int)(e:AEntry):Int:=qag (qfL acc) 0 0 e.Legs.l
def qhR(acc:Int)(_:Nat)(n:Int)(e:AEntry):Int:=w64 (n+qhn acc e)
def ofR(j:List AEntry)(acc:Int):Int:=qag (qhR acc) 0 0 j
theorem qCp(T:Tab)(e:AEntry)(acc:Int)(hn:e.Legs.l.length≤maxLen){k:KC (PV×Bool)}{fr:Fr}{H:Heap}(h0:gc [1,2,5,6] 0 ⟨fr,H⟩=⟨[(6,(.d (I (0:Int)))),(5,(.d (I 0))),(2,(.p 0 0 0)),(1,(.d (I acc)))],[some (.box (K1 10) (.d e.dv))]⟩) :
    kC T.env 0 fr H (.h (.loop [1,2,5,6] qpm,k))=k (.exit 0) [(11,.d (.b false)),(6,(.d (I (e.Legs.l.length:Int)))),(5,(.d (I (qag (qbI acc) 0 0 e.Legs.l)))),(2,(.p 0 0 0)),(1,(.d (I acc)))] [some (.box (K1 10) (.d e.dv))]:=by
  rw[qa3 e.Legs.l (fun i (b:Int)=>⟨[(6,(.d (I (i:Int)))),(5,(.d (I b))),(2,(.p 0 0 0)),(1,(.d (I acc)))],[some (.box (K1 10) (.d e.dv))]⟩) (fun _ _=>True) (fun i b x c=>c (qbI acc i b x)) (fun b=>k (.exit 0) [(11,.d (.b false)),(6,(.d (I (e.Legs.l.length:Int)))),(5,(.d (I b))),(2,(.p 0 0 0)),(1,(.d (I acc)))] [some (.box (K1 10) (.d e.dv))]) ?_ ?_ h0 trivial]
  · rw[qbG (qbI acc) _ _ (fun _ _ _ _=>rfl)]
  · intro B _ b _
    simp
  · intro B _ i b hi _ c hc
    have hm:=mxl
    have h1:(i:Int)<e.Legs.l.length:=by omega
    have h3:=wr1 (i:=i) (by omega)
    simp[h1,hi];repeat' (refine qat (fun h => ?_) (fun h => ?_)<;>(try simp at h)<;>(try simp[h1,hi,h3]))
    all_goals first
      | (have e:(qbI acc) i b e.Legs.l[i]=w64 (b-e.Legs.l[i].Amount):=by
           simp[qbI,w64, *];try (intros;omega)
         rw[e];exact hc _ _ _ trivial (by simp[gc,Fr.keep,qaf,qae,qad,PV.refs,qaj,gcH,qai,Obj.refs,PV.ren,Obj.ren,Heap.obj,Fr.ren,gh,zzd];try rfl))
      | (have e:(qbI acc) i b e.Legs.l[i]=b:=by
           simp[qbI, *];try (intros;omega)
         rw[e];exact hc _ _ _ trivial (by simp[gc,Fr.keep,qaf,qae,qad,PV.refs,qaj,gcH,qai,Obj.refs,PV.ren,Obj.ren,Heap.obj,Fr.ren,gh,zzd];try rfl))
theorem qyb(T:Tab)(hT:HU T)(e:AEntry)(acc:Int)(he:e.ok):T.val 1034 [e.dv,I acc]=some (.d (I (qhn acc e)),false):=by
  rw[qab T (hT 1034 F1034 rfl) rfl];simp[F1034,Fr.ofArgs];refine (qCp T e acc (he.2.2.2.2.2.2.2.2.1).1 (by simp[gc,Fr.keep,qaf,qae,qad,PV.refs,qaj,gcH,qai,Obj.refs,PV.ren,Obj.ren,Heap.obj,Fr.ren,gh,zzd])).trans ?_
  simp[qhn]
theorem qCy(T:Tab)(e:AEntry)(acc:Int)(hn:e.Legs.l.length≤maxLen){k:KC (PV×Bool)}{fr:Fr}{H:Heap}(h0:gc [1,2,5,6] 0 ⟨fr,H⟩=⟨[(6,(.d (I (0:Int)))),(5,(.d (I 0))),(2,(.p 0 0 0)),(1,(.d (I acc)))],[some (.box (K1 10) (.d e.dv))]⟩) :
    kC T.env 0 fr H (.h (.loop [1,2,5,6] qpp,k))=k (.exit 0) [(11,.d (.b false)),(6,(.d (I (e.Legs.l.length:Int)))),(5,(.d (I (qag (qfL acc) 0 0 e.Legs.l)))),(2,(.p 0 0 0)),(1,(.d (I acc)))] [some (.box (K1 10) (.d e.dv))]:=by
  rw[qa3 e.Legs.l (fun i (b:Int)=>⟨[(6,(.d (I (i:Int)))),(5,(.d (I b))),(2,(.p 0 0 0)),(1,(.d (I acc)))],[some (.box (K1 10) (.d e.dv))]⟩) (fun _ _=>True) (fun i b x c=>c (qfL acc i b x)) (fun b=>k (.exit 0) [(11,.d (.b false)),(6,(.d (I (e.Legs.l.length:Int)))),(5,(.d (I b))),(2,(.p 0 0 0)),(1,(.d (I acc)))] [some (.box (K1 10) (.d e.dv))]) ?_ ?_ h0 trivial]
  · rw[qbG (qfL acc) _ _ (fun _ _ _ _=>rfl)]
  · intro B _ b _
    simp
  · intro B _ i b hi _ c hc
    have hm:=mxl
    have h1:(i:Int)<e.Legs.l.length:=by omega
    have h3:=wr1 (i:=i) (by omega)
    simp[h1,hi];repeat' (refine qat (fun h => ?_) (fun h => ?_)<;>(try simp at h)<;>(try simp[h1,hi,h3]))
    all_goals first
      | (have e:(qfL acc) i b e.Legs.l[i]=w64 (b+e.Legs.l[i].Amount):=by
           simp[qfL,w64, *];try (intros;omega)
         rw[e];exact hc _ _ _ trivial (by simp[gc,Fr.keep,qaf,qae,qad,PV.refs,qaj,gcH,qai,Obj.refs,PV.ren,Obj.ren,Heap.obj,Fr.ren,gh,zzd];try rfl))
      | (have e:(qfL acc) i b e.Legs.l[i]=b:=by
           simp[qfL, *];try (intros;omega)
         rw[e];exact hc _ _ _ trivial (by simp[gc,Fr.keep,qaf,qae,qad,PV.refs,qaj,gcH,qai,Obj.refs,PV.ren,Obj.ren,Heap.obj,Fr.ren,gh,zzd];try rfl))
theorem qJQ(T:Tab)(hT:HU T)(e:AEntry)(acc:Int)(he:e.ok):T.val 1044 [e.dv,I acc]=some (.d (I (max 0 (qkU acc e))),false):=by
  rw[qab T (hT 1044 F1044 rfl) rfl];simp[F1044,Fr.ofArgs];refine (qCy T e acc (he.2.2.2.2.2.2.2.2.1).1 (by simp[gc,Fr.keep,qaf,qae,qad,PV.refs,qaj,gcH,qai,Obj.refs,PV.ren,Obj.ren,Heap.obj,Fr.ren,gh,zzd])).trans ?_
  simp[qkU]
theorem qCk(T:Tab)(hT:HU T)(l:List AEntry)(t:Bool)(acc:Int)(hn:l.length≤maxLen)(ho:∀e∈l,e.ok){k:KC (PV×Bool)}{fr:Fr}{H:Heap}(h0:gc [0,1,5,6] 0 ⟨fr,H⟩=⟨[(6,(.d (I (0:Int)))),(5,(.d (I 0))),(1,(.d (I acc))),(0,(.d (.l (K1 10) (l.map AEntry.dv) t)))],[]⟩) :
    kC T.env 0 fr H (.h (.loop [0,1,5,6] qpi,k))=k (.exit 0) [(10,.d (.b false)),(6,(.d (I (l.length:Int)))),(5,(.d (I (qag (qhR acc) 0 0 l)))),(1,(.d (I acc))),(0,(.d (.l (K1 10) (l.map AEntry.dv) t)))] []:=by
  rw[qa3 l (fun i (b:Int)=>⟨[(6,(.d (I (i:Int)))),(5,(.d (I b))),(1,(.d (I acc))),(0,(.d (.l (K1 10) (l.map AEntry.dv) t)))],[]⟩) (fun _ _=>True) (fun i b x c=>c (qhR acc i b x)) (fun b=>k (.exit 0) [(10,.d (.b false)),(6,(.d (I (l.length:Int)))),(5,(.d (I b))),(1,(.d (I acc))),(0,(.d (.l (K1 10) (l.map AEntry.dv) t)))] []) ?_ ?_ h0 trivial]
  · rw[qbG (qhR acc) _ _ (fun _ _ _ _=>rfl)]
  · intro B _ b _
    simp
  · intro B _ i b hi _ c hc
    have hm:=mxl
    have h1:(i:Int)<l.length:=by omega
    have h3:=wr1 (i:=i) (by omega)
    have hv:=qyb T hT l[i] acc (ho _ (zzs hi))
    simp[h1,hi,h3,hv];repeat' (refine qat (fun h => ?_) (fun h => ?_)<;>(try simp at h)<;>(try simp[h,h1,hi,h3,hv]))
    all_goals first
      | (have e:(qhR acc) i b l[i]=w64 (b+qhn acc l[i]):=by
           simp[qhR, *];try (intros;omega)
         rw[e];exact hc _ _ _ trivial (by simp[gc,Fr.keep,qaf,qae,qad,PV.refs,gcH,PV.ren,Obj.ren,Heap.obj,Fr.ren,gh];try rfl))
theorem qx9(T:Tab)(hT:HU T)(l:List AEntry)(t:Bool)(acc:Int)(hn:l.length≤maxLen)(ho:∀e∈l,e.ok):T.val 1027 [.l (K1 10) (l.map AEntry.dv) t,I acc]=some (.d (I (ofR l acc)),false):=by
  rw[qab T (hT 1027 F1027 rfl) rfl];simp[F1027,Fr.ofArgs];refine (qCk T hT l t acc hn ho (by simp[gc,Fr.keep,qaf,qae,qad,PV.refs,gcH,PV.ren,Obj.ren,Heap.obj,Fr.ren,gh])).trans ?_
  simp[ofR]
def qjn(e:AEntry):Bool:=e.Auth==0&&(e.Kind==2||e.Kind==3||e.Kind==9||e.Kind==14)
theorem qLD(T:Tab)(hT:HU T)(e:AEntry):T.val 949 [e.dv]=some (.d (.b (qjn e)),false):=by
  rw[qab T (hT 949 qlP rfl) rfl];simp[qlP,Fr.ofArgs];repeat' (refine qat (fun h => ?_) (fun h => ?_)<;>(try simp at h)<;>(try simp[h]))
  all_goals simp_all[qjn]
theorem qJP(T:Tab)(hT:HU T)(e:AEntry):T.val 1043 [e.dv]=some (.d (.b (qjn e)),false):=by
  rw[qab T (hT 1043 qk6 rfl) rfl];simp[qk6,Fr.ofArgs];repeat' (refine qat (fun h => ?_) (fun h => ?_)<;>(try simp at h)<;>(try simp[h]))
  all_goals simp_all[qjn]
theorem qDf(T:Tab)(l:List AEntry)(t:Bool)(acc frm upto:Int)(oi s:Int)(e:AEntry)(hn:e.Legs.l.length≤maxLen){k:KC (PV×Bool)}{fr:Fr}{H:Heap}(h0:gc [1,2,3,9,12,16,17,18,38,39,40] 0 ⟨fr,H⟩=⟨[(40,(.d (I (0:Int)))),(39,(.d (I e.Legs.l.length))),(38,(.d (.l (K1 3) (e.Legs.l.map ALeg.dv) e.Legs.t))),(18,(.d (I oi))),(17,(.d (I l.length))),(16,(.d (.l (K1 10) (l.map AEntry.dv) t))),(12,(.d (I 0))),(9,(.d (I s))),(3,(.d (I upto))),(2,(.d (I frm))),(1,(.d (I acc)))],[]⟩) :
    kC T.env 0 fr H (.h (.loop [1,2,3,9,12,16,17,18,38,39,40] qpU,k))=k (.exit 2) [(41,.d (.b false)),(40,(.d (I (e.Legs.l.length:Int)))),(39,(.d (I e.Legs.l.length))),(38,(.d (.l (K1 3) (e.Legs.l.map ALeg.dv) e.Legs.t))),(18,(.d (I oi))),(17,(.d (I l.length))),(16,(.d (.l (K1 10) (l.map AEntry.dv) t))),(12,(.d (I (qag (qfL acc) 0 0 e.Legs.l)))),(9,(.d (I s))),(3,(.d (I upto))),(2,(.d (I frm))),(1,(.d (I acc)))] []:=by
  rw[qa3 e.Legs.l (fun i (b:Int)=>⟨[(40,(.d (I (i:Int)))),(39,(.d (I e.Legs.l.length))),(38,(.d (.l (K1 3) (e.Legs.l.map ALeg.dv) e.Legs.t))),(18,(.d (I oi))),(17,(.d (I l.length))),(16,(.d (.l (K1 10) (l.map AEntry.dv) t))),(12,(.d (I b))),(9,(.d (I s))),(3,(.d (I upto))),(2,(.d (I frm))),(1,(.d (I acc)))],[]⟩) (fun _ _=>True) (fun i b x c=>c (qfL acc i b x)) (fun b=>k (.exit 2) [(41,.d (.b false)),(40,(.d (I (e.Legs.l.length:Int)))),(39,(.d (I e.Legs.l.length))),(38,(.d (.l (K1 3) (e.Legs.l.map ALeg.dv) e.Legs.t))),(18,(.d (I oi))),(17,(.d (I l.length))),(16,(.d (.l (K1 10) (l.map AEntry.dv) t))),(12,(.d (I b))),(9,(.d (I s))),(3,(.d (I upto))),(2,(.d (I frm))),(1,(.d (I acc)))] []) ?_ ?_ h0 trivial]
  · rw[qbG (qfL acc) _ _ (fun _ _ _ _=>rfl)]
  · intro B _ b _
    simp
  · intro B _ i b hi _ c hc
    have hm:=mxl
    have h1:(i:Int)<e.Legs.l.length:=by omega
    have h3:=wr1 (i:=i) (by omega)
    simp[h1,hi];repeat' (refine qat (fun h => ?_) (fun h => ?_)<;>(try simp at h)<;>(try simp[h3]))
    all_goals first
      | (have e:(qfL acc) i b e.Legs.l[i]=w64 (b+e.Legs.l[i].Amount):=by
           simp[qfL,w64, *];try (intros;omega)
         rw[e];exact hc _ _ _ trivial (by simp[gc,Fr.keep,qaf,qae,qad,PV.refs,gcH,PV.ren,Obj.ren,Heap.obj,Fr.ren,gh];try rfl))
      | (have e:(qfL acc) i b e.Legs.l[i]=b:=by
           simp[qfL, *];try (intros;omega)
         rw[e];exact hc _ _ _ trivial (by simp[gc,Fr.keep,qaf,qae,qad,PV.refs,gcH,PV.ren,Obj.ren,Heap.obj,Fr.ren,gh];try rfl))
def qmu(frm upto:Int)(e:AEntry):Bool:=qjn e&&(decide (frm≤e.Booked)&&decide (e.Booked≤upto))
def fSp(acc frm upto:Int)(_:Nat)(n:Int)(e:AEntry):Int:=if qmu frm upto e=true then w64 (n+max 0 (qkU acc e))else n
def qhw(j:List AEntry)(acc frm upto:Int):Int:=qag (fSp acc frm upto) 0 0 j
theorem qDg(T:Tab)(hT:HU T)(l:List AEntry)(t:Bool)(acc frm upto:Int)(hn:l.length≤maxLen)(ho:∀e∈l,e.ok){k:KC (PV×Bool)}{fr:Fr}{H:Heap}(h0:gc [1,2,3,9,16,17,18] 0 ⟨fr,H⟩=⟨[(18,(.d (I (0:Int)))),(17,(.d (I l.length))),(16,(.d (.l (K1 10) (l.map AEntry.dv) t))),(9,(.d (I 0))),(3,(.d (I upto))),(2,(.d (I frm))),(1,(.d (I acc)))],[]⟩) :
    kC T.env 0 fr H (.h (.loop [1,2,3,9,16,17,18] qnu,k))=k (.exit 0) [(19,.d (.b false)),(18,(.d (I (l.length:Int)))),(17,(.d (I l.length))),(16,(.d (.l (K1 10) (l.map AEntry.dv) t))),(9,(.d (I (qag (fSp acc frm upto) 0 0 l)))),(3,(.d (I upto))),(2,(.d (I frm))),(1,(.d (I acc)))] []:=by
  rw[qa3 l (fun i (b:Int)=>⟨[(18,(.d (I (i:Int)))),(17,(.d (I l.length))),(16,(.d (.l (K1 10) (l.map AEntry.dv) t))),(9,(.d (I b))),(3,(.d (I upto))),(2,(.d (I frm))),(1,(.d (I acc)))],[]⟩) (fun _ _=>True) (fun i b x c=>c (fSp acc frm upto i b x)) (fun b=>k (.exit 0) [(19,.d (.b false)),(18,(.d (I (l.length:Int)))),(17,(.d (I l.length))),(16,(.d (.l (K1 10) (l.map AEntry.dv) t))),(9,(.d (I b))),(3,(.d (I upto))),(2,(.d (I frm))),(1,(.d (I acc)))] []) ?_ ?_ h0 trivial]
  · rw[qbG (fSp acc frm upto) _ _ (fun _ _ _ _=>rfl)]
  · intro B _ b _
    simp
  · intro B _ i b hi _ c hc
    have hm:=mxl
    have h1:(i:Int)<l.length:=by omega
    have h3:=wr1 (i:=i) (by omega)
    have hv:=qLD T hT l[i]
    have hl:l[i].Legs.l.length≤maxLen:=((ho _ (zzs hi)).2.2.2.2.2.2.2.2.1).1
    obtain⟨q,hq⟩:∃q,qjn l[i]=q:=⟨_,rfl⟩;rw[hq]at hv;simp[h1,hi,hv];repeat' (refine qat (fun h => ?_) (fun h => ?_)<;>(try simp at h)<;>(try simp[h,h3]))
    all_goals try
      ((have e:(fSp acc frm upto) i b l[i]=b:=by
           simp[fSp,qmu, *];try (intros;omega)
           done)
       rw[e];exact hc _ _ _ trivial (by simp[gc,Fr.keep,qaf,qae,qad,PV.refs,gcH,PV.ren,Obj.ren,Heap.obj,Fr.ren,gh];try rfl))
    have e:(fSp acc frm upto) i b l[i]=w64 (b+max 0 (qkU acc l[i])):=by
      simp[fSp,qmu, *]
    rw[e];have hl2:=fun k fr H => @qDf T l t acc frm upto i b l[i] hl k fr H
    rw[hl2]
    · simp[h3]
      exact hc _ _ _ trivial (by simp[gc,Fr.keep,qaf,qae,qad,PV.refs,gcH,PV.ren,Obj.ren,Heap.obj,Fr.ren,gh,qkU,w64])
    · simp[gc,Fr.keep,qaf,qae,qad,PV.refs,gcH,PV.ren,Obj.ren,Heap.obj,Fr.ren,gh]
theorem qLq(T:Tab)(hT:HU T)(b:ABooks)(hb:b.ok)(acc frm upto:Int):T.val 918 [b.dv,I acc,I frm,I upto]=some (.d (I (qhw b.Journal.l acc frm upto)),false):=by
  rw[qab T (hT 918 F918 rfl) rfl];simp[F918,Fr.ofArgs];refine (qDg T hT b.Journal.l b.Journal.t acc frm upto (hb.2.2.2.2.2.2.1).1 (hb.2.2.2.2.2.2.1).2 (by simp[gc,Fr.keep,qaf,qae,qad,PV.refs,gcH,PV.ren,Obj.ren,Heap.obj,Fr.ren,gh])).trans ?_
  simp[qhw]
theorem qCo(T:Tab)(hT:HU T)(bk:ABooks)(acc frm upto:Int)(hn:bk.Journal.l.length≤maxLen)(ho:∀e∈bk.Journal.l,e.ok){k:KC (PV×Bool)}{fr:Fr}{H:Heap}(h0:gc [1,2,3,4,9,10] 0 ⟨fr,H⟩=⟨[(10,(.d (I (0:Int)))),(9,(.d (I 0))),(4,(.p 0 0 0)),(3,(.d (I upto))),(2,(.d (I frm))),(1,(.d (I acc)))],[some (.box (K1 22) (.d bk.dv))]⟩) :
    kC T.env 0 fr H (.h (.loop [1,2,3,4,9,10] qpl,k))=k (.exit 0) [(16,.d (.b false)),(10,(.d (I (bk.Journal.l.length:Int)))),(9,(.d (I (qag (fSp acc frm upto) 0 0 bk.Journal.l)))),(4,(.p 0 0 0)),(3,(.d (I upto))),(2,(.d (I frm))),(1,(.d (I acc)))] [some (.box (K1 22) (.d bk.dv))]:=by
  rw[qa3 bk.Journal.l (fun i (b:Int)=>⟨[(10,(.d (I (i:Int)))),(9,(.d (I b))),(4,(.p 0 0 0)),(3,(.d (I upto))),(2,(.d (I frm))),(1,(.d (I acc)))],[some (.box (K1 22) (.d bk.dv))]⟩) (fun _ _=>True) (fun i b x c=>c (fSp acc frm upto i b x)) (fun b=>k (.exit 0) [(16,.d (.b false)),(10,(.d (I (bk.Journal.l.length:Int)))),(9,(.d (I b))),(4,(.p 0 0 0)),(3,(.d (I upto))),(2,(.d (I frm))),(1,(.d (I acc)))] [some (.box (K1 22) (.d bk.dv))]) ?_ ?_ h0 trivial]
  · rw[qbG (fSp acc frm upto) _ _ (fun _ _ _ _=>rfl)]
  · intro B _ b _
    simp
  · intro B _ i b hi _ c hc
    have hm:=mxl
    have h1:(i:Int)<bk.Journal.l.length:=by omega
    have h3:=wr1 (i:=i) (by omega)
    have hv:=qJP T hT bk.Journal.l[i]
    have hw:=qJQ T hT bk.Journal.l[i] acc (ho _ (zzs hi))
    obtain⟨q,hq⟩:∃q,qjn bk.Journal.l[i]=q:=⟨_,rfl⟩;rw[hq]at hv;simp[h1,hi,hv];repeat' (refine qat (fun h => ?_) (fun h => ?_)<;>(try simp at h)<;>(try simp[h,h3,hw]))
    all_goals first
      | (have e:(fSp acc frm upto) i b bk.Journal.l[i]=w64 (b+max 0 (qkU acc bk.Journal.l[i])):=by
           simp[fSp,qmu, *];try (intros;omega)
         rw[e];exact hc _ _ _ trivial (by simp[gc,Fr.keep,qaf,qae,qad,PV.refs,qaj,gcH,qai,Obj.refs,PV.ren,Obj.ren,Heap.obj,Fr.ren,gh,zzd,w64];try rfl))
      | (have e:(fSp acc frm upto) i b bk.Journal.l[i]=b:=by
           simp[fSp,qmu, *];try (intros;omega)
         rw[e];exact hc _ _ _ trivial (by simp[gc,Fr.keep,qaf,qae,qad,PV.refs,qaj,gcH,qai,Obj.refs,PV.ren,Obj.ren,Heap.obj,Fr.ren,gh,zzd];try rfl))
theorem qJF(T:Tab)(hT:HU T)(b:ABooks)(hb:b.ok)(acc frm upto:Int):T.val 1032 [b.dv,I acc,I frm,I upto]=some (.d (I (qhw b.Journal.l acc frm upto)),false):=by
  rw[qab T (hT 1032 F1032 rfl) rfl];simp[F1032,Fr.ofArgs];refine (qCo T hT b acc frm upto (hb.2.2.2.2.2.2.1).1 (hb.2.2.2.2.2.2.1).2 (by simp[gc,Fr.keep,qaf,qae,qad,PV.refs,qaj,gcH,qai,Obj.refs,PV.ren,Obj.ren,Heap.obj,Fr.ren,gh,zzd])).trans ?_
  simp[qhw]
mutual
def qap:DV→Int→Int
 | .a [_,_,_,.l _ es _],m=>qa8 es 1 m
 | _,_=>1
def qa8:List DV→Int→Int→Int
 | [],n,_=>n
 |e::es,n,m=>if n≤m then qa8 es (n+qap e (m-n)) m else n
end
mutual
theorem qme:∀(e:DV) (m:Int),0≤m→1≤qap e m∧qap e m≤m+1
 | .a [_,_,_,.l _ es _],m,h=>by
  unfold qap;exact qun es 1 m (by omega) (by omega)
 | .a [],m,h=>by unfold qap;omega
 | .a [_],m,h=>by unfold qap;omega
 | .a [_,_],m,h=>by unfold qap;omega
 | .a [_,_,_],m,h=>by unfold qap;omega
 | .a (_::_::_ :: .b _::_),m,h=>by unfold qap;omega
 | .a (_::_::_ :: .i _ _::_),m,h=>by unfold qap;omega
 | .a (_::_::_ :: .s _::_),m,h=>by unfold qap;omega
 | .a (_::_::_ :: .a _::_),m,h=>by unfold qap;omega
 | .a (_::_::_ :: .np::_),m,h=>by unfold qap;omega
 | .a (_::_::_ :: .nf::_),m,h=>by unfold qap;omega
 | .a (_::_::_ :: .ni::_),m,h=>by unfold qap;omega
 | .a (_::_::_ :: .nm::_),m,h=>by unfold qap;omega
 | .a (_::_::_ :: .ifc _ _::_),m,h=>by unfold qap;omega
 | .a (_::_::_ :: .tok _::_),m,h=>by unfold qap;omega
 | .a (_::_::_ :: .l _ _ _::_::_),m,h=>by unfold qap;omega
 | .b _,m,h=>by unfold qap;omega
 | .i _ _,m,h=>by unfold qap;omega
 | .s _,m,h=>by unfold qap;omega
 | .l _ _ _,m,h=>by unfold qap;omega
 | .np,m,h=>by unfold qap;omega
 | .nf,m,h=>by unfold qap;omega
 | .ni,m,h=>by unfold qap;omega
 | .nm,m,h=>by unfold qap;omega
 | .ifc _ _,m,h=>by unfold qap;omega
 | .tok _,m,h=>by unfold qap;omega
theorem qun:∀(es:List DV) (n m:Int),1≤n→n≤m+1→1≤qa8 es n m∧qa8 es n m≤m+1
 | [],n,m,h1,h2=>⟨h1,h2⟩
 |e::es,n,m,h1,h2=>by
  unfold qa8;split
  ·rename_i h
   have:=qme e (m-n) (by omega)
   exact qun es _ m (by omega) (by omega)
  ·exact⟨h1,h2⟩
end
theorem qDn(T:Tab)(x:AExpr)(l:List AExpr)(hl:x.Args.l=l.map AExpr.dv)(m:Int)(hm0:0≤m)(hm1:m≤1000)(hn:l.length≤maxLen)(hv:∀y∈l,∀m',0≤m'→m'≤1000→T.val 950 [y.dv,I m']=some (.d (I (qap y.dv m')),false)){k:KC (PV×Bool)}{r:Int→Option (PV×Bool)}{fr:Fr}{H:Heap}
  (hk:∀(i:Nat) (n:Int),k (.exit 0) [(16,.d (.b false)),(6,.d (I i)),(5,.d (I n)),(2,.p 0 0 0),(1,.d (I m))] [some (.box (K1 4) (.d x.dv))]=r n)
  (h0:gc [1,2,5,6] 0 ⟨fr,H⟩=⟨[(6,.d (I 0)),(5,.d (I 1)),(2,.p 0 0 0),(1,.d (I m))],[some (.box (K1 4) (.d x.dv))]⟩) :
  kC T.env 0 fr H (.h (.loop [1,2,5,6] qpY,k))=r (qa8 x.Args.l 1 m):=by
 have hm:=mxl
 rw[qa3 l (fun i (n:Int)=>⟨[(6,.d (I i)),(5,.d (I n)),(2,.p 0 0 0),(1,.d (I m))],[some (.box (K1 4) (.d x.dv))]⟩) (fun _ n=>1≤n∧n≤m+1) (fun i n y c=>if n≤m then c (n+qap y.dv (m-n))else r n) r ?_ ?_ h0 ⟨by omega,by omega⟩]
 ·have key:∀(es:List AExpr) (i:Nat) (n:Int),qcx (fun i n y c=>if n≤m then c (n+qap (AExpr.dv y) (m-n))else r n) r i n es=r (qa8 (es.map AExpr.dv) n m):=by
   intro es;induction es with
   |nil=>intro i n;simp[qcx,qa8]
   |cons y es ih =>
    intro i n;rw[qcx,zzu,qa8];split
    ·exact ih _ _
    ·rfl
  rw[hl];exact key l 0 1
 ·intro B _ n _
  have:=hk l.length n
  simp[hl];exact this
 ·intro B _ i n hi hn1 c hc;have h1:(i:Int)<l.length:=by omega
  have h3:=wr1 (i:=i) (by omega)
  have h4:IntKind.i64.wrap (m-n)=m-n:=wrI (by omega) (by omega)
  simp[h1,hl];refine qat (fun h => ?_) (fun h => ?_)
  ·simp at h;have hb:=qme l[i].dv (m-n) (by omega)
   have h5:IntKind.i64.wrap (n+qap l[i].dv (m-n))=n+qap l[i].dv (m-n):=wrI (by omega) (by omega)
   have hw:=hv l[i] (zzs hi) (m-n) (by omega) (by omega)
   simp[h,h1,hi,h3,h4,h5,hw,hl];exact hc _ _ _ ⟨by omega,by omega⟩ (by simp[gc,Fr.keep,qaf,qae,qad,PV.refs,qaj,gcH,qai,Obj.refs,PV.ren,Obj.ren,Heap.obj,Fr.ren,gh,zzd])
  ·simp at h;have h':¬n≤m:=by omega
   simp[h'];exact hk i n
theorem qtu(T:Tab)(hT:HU T):∀(n:Nat) (x:AExpr),SizeOf.sizeOf x.dv<n→x.ok→∀m,0≤m→m≤1000→T.val 950 [x.dv,I m]=some (.d (I (qap x.dv m)),false)
 | 0,_,h,_,_,_,_=>absurd h (zzm _)
 |n+1,x,hs,hx,m,h0,h1=>by
  obtain⟨hlen,l,hl,hlo⟩:=qt2 hx.2.2.2;rw[qab T (hT 950 F950 rfl) rfl];have hn:l.length≤maxLen:=by rw[hl]at hlen;simpa using hlen
  have lp:=fun k r fr H => @qDn T x l hl m h0 h1 hn (fun y hy=>qtu T hT n y (by have:=qzd (x:=x) (a:=y) (by rw[hl];exact List.mem_map_of_mem hy);omega) (hlo _ hy)) k r fr H
  simp[F950,Fr.ofArgs];refine (lp _ (fun n=>some (.d (I n),false)) _ _ (fun i n => ?_) (by simp[gc,Fr.keep,qaf,qae,qad,PV.refs,qaj,gcH,qai,Obj.refs,PV.ren,Obj.ren,Heap.obj,Fr.ren,gh,zzd])).trans ?_
  ·simp
  ·rfl
theorem qtt(T:Tab)(hT:HU T)(x:AExpr)(hx:x.ok):T.val 919 [x.dv,I 100]=some (.d (.b (decide (100<qap x.dv 100))),false):=by
 rw[qab T (hT 919 qid rfl) rfl];have e:=qtu T hT _ x (Nat.lt_succ_self _) hx 100 (by decide) (by decide)
 simp[qid,Fr.ofArgs,e]
def qgb{R:Type}(n:Nat)(k:KC R)(r:Option R):Prop:=∀fr H,fr.get n = .d (.b true)→qak fr=[]→k .ret fr H=r
theorem qin{R:Type}{n id:Nat}{k:KC R}{r:Option R}:qgb n (blK id k) r=qgb n k r:=rfl
theorem qip{R:Type}{n:Nat}{E:Env}{base:Nat}{b:PC}{k:KC R}{r:Option R}:qgb n (sqK E base b k) r=qgb n k r:=rfl
theorem qio{n:Nat}{E:Env}:qgb n (fin E [.t n]) (some (.d (.b true),false))=True:=by
  refine eq_true ?_;intro fr H h1 h2;rw[qbR h2,qcp,qco,h1];rfl
def qhh(h:AHold):Bool:=decide (200<h.Key.length)
def qmr(l:List AHold):Bool:=decide (100<l.length)||l.any qhh
def qhi(x:ALeg):Bool:=decide (100<x.Currency.length)
def qgx(e:AEntry):Bool:=decide (30<e.Legs.l.length)||decide (1000<e.Key.length)||decide (1000<e.Text.length)||e.Legs.l.any qhi
def grX(x:AExpr):Bool:=decide (100<qap x.dv 100)
def qgy(f:AFee):Bool:=decide (100<f.Name.length)||grX f.When||grX f.Amount
def qgz(f:ARule):Bool:=decide (100<f.Name.length)||grX f.Amount
def qfz(p:AProduct):Bool:=decide (100<p.Name.length)||decide (100<p.Currency.length)||decide (100<p.Calendar.length)||decide (20<p.Credit.Tiers.l.length)||decide (20<p.Debit.Tiers.l.length)||decide (10<p.Fees.l.length)||decide (10<p.Rules.l.length)||p.Fees.l.any qgy||p.Rules.l.any qgz
def qhg(c:ACalendar):Bool:=decide (400<c.Holidays.l.length)||decide (20<c.Weekend.l.length)
def qgX(b:ABooks):Bool:=decide (20<b.Currencies.l.length)||decide (10<b.Calendars.l.length)||decide (60<b.Chart.l.length)||decide (20<b.Products.l.length)||decide (40<b.Accounts.l.length)||decide (150<b.Journal.l.length)||qmr b.Holds.l||decide (100<b.Blocks.l.length)||b.Products.l.any qfz||b.Journal.l.any qgx||b.Calendars.l.any qhg
theorem qCI(T:Tab)(l:List AHold)(t:Bool)(hn:l.length≤maxLen){k:KC (PV×Bool)}{r:Option (PV×Bool)}{fr:Fr}{H:Heap}(hr:qgb 2 k r)(h0:gc [0,3] 0 ⟨fr,H⟩=⟨[(3,(.d (I (0:Int)))),(0,(.d (.l (K1 6) (l.map AHold.dv) t)))],[]⟩) :
    kC T.env 0 fr H (.h (.loop [0,3] qpy,k))=brn (l.any (qhh)) (.h (r,k (.exit 0) [(10,.d (.b false)),(3,(.d (I (l.length:Int)))),(0,(.d (.l (K1 6) (l.map AHold.dv) t)))] [])):=by
  have hm:=mxl
  rw[qa3 l (fun i _=>⟨[(3,(.d (I (i:Int)))),(0,(.d (.l (K1 6) (l.map AHold.dv) t)))],[]⟩) (fun _ _=>True) (fun i _ x c=>if (qhh) x=true then r else c ()) (fun _=>k (.exit 0) [(10,.d (.b false)),(3,(.d (I (l.length:Int)))),(0,(.d (.l (K1 6) (l.map AHold.dv) t)))] []) ?_ ?_ h0 trivial]
  · rw[qh2 (qhh) r]
    · cases l.any (qhh)<;>rfl
    · exact fun _ _ _ _=>rfl
  · intro B _ _ _
    simp
  · intro B _ i _ hi _ c hc
    have h1:(i:Int)<l.length:=by omega
    have h3:=wr1 (i:=i) (by omega)
    simp[h1,hi];repeat' (refine qat (fun h => ?_) (fun h => ?_)<;>(try simp at h)<;>(try simp[h3]))
    all_goals first
      | (have e:(qhh) l[i]=true:=by
           simp[qhh, *];try omega
         rw[if_pos e];exact hr _ _ (by simp[Fr.get]) (by simp[qak,gh]))
      | (have e:¬(qhh) l[i]=true:=by
           simp[qhh, *];try omega
         rw[if_neg e];exact hc () _ _ trivial (by simp[gc,Fr.keep,qaf,qae,qad,PV.refs,gcH,PV.ren,Obj.ren,Heap.obj,Fr.ren,gh]))
theorem qKd(T:Tab)(hT:HU T)(l:List AHold)(t:Bool)(hn:l.length≤maxLen):T.val 1094 [.l (K1 6) (l.map AHold.dv) t]=some (.d (.b (qmr l)),false):=by
  rw[qab T (hT 1094 F1094 rfl) rfl];have lp:=fun k fr H => @qCI T l t hn k (some (.d (.b true),false)) fr H
  obtain⟨q,hq⟩:∃q,l.any qhh=q:=⟨_,rfl⟩;simp only[hq]at lp;have hs:qmr l=(decide (100<l.length)||q):=by rw[qmr,hq]
  clear hq
  simp[F1094,Fr.ofArgs];repeat' first
    | (refine qat (fun h => ?_) (fun h => ?_)<;>(try simp at h)<;>(try simp))
    |refine (lp _ _ _ (by simp[qin,qip,qio]) (by simp[gc,Fr.keep,qaf,qae,qad,PV.refs,gcH,PV.ren,Obj.ren,Heap.obj,Fr.ren,gh])).trans ?_
  all_goals simp_all
  all_goals omega
theorem qCL(T:Tab)(e:AEntry)(hn:e.Legs.l.length≤maxLen){k:KC (PV×Bool)}{r:Option (PV×Bool)}{fr:Fr}{H:Heap}(hr:qgb 2 k r)(h0:gc [1,3] 0 ⟨fr,H⟩=⟨[(3,(.d (I (0:Int)))),(1,(.p 0 0 0))],[some (.box (K1 10) (.d e.dv))]⟩) :
    kC T.env 0 fr H (.h (.loop [1,3] qpB,k))=brn (e.Legs.l.any (qhi)) (.h (r,k (.exit 0) [(24,.d (.b false)),(3,(.d (I (e.Legs.l.length:Int)))),(1,(.p 0 0 0))] [some (.box (K1 10) (.d e.dv))])):=by
  have hm:=mxl
  rw[qa3 e.Legs.l (fun i _=>⟨[(3,(.d (I (i:Int)))),(1,(.p 0 0 0))],[some (.box (K1 10) (.d e.dv))]⟩) (fun _ _=>True) (fun i _ x c=>if (qhi) x=true then r else c ()) (fun _=>k (.exit 0) [(24,.d (.b false)),(3,(.d (I (e.Legs.l.length:Int)))),(1,(.p 0 0 0))] [some (.box (K1 10) (.d e.dv))]) ?_ ?_ h0 trivial]
  · rw[qh2 (qhi) r]
    · cases e.Legs.l.any (qhi)<;>rfl
    · exact fun _ _ _ _=>rfl
  · intro B _ _ _
    simp
  · intro B _ i _ hi _ c hc
    have h1:(i:Int)<e.Legs.l.length:=by omega
    have h3:=wr1 (i:=i) (by omega)
    simp[h1,hi];repeat' (refine qat (fun h => ?_) (fun h => ?_)<;>(try simp at h)<;>(try simp[h3]))
    all_goals first
      | (have e:(qhi) e.Legs.l[i]=true:=by
           simp[qhi, *];try omega
         rw[if_pos e];exact hr _ _ (by simp[Fr.get]) (by simp[qak,gh]))
      | (have e:¬(qhi) e.Legs.l[i]=true:=by
           simp[qhi, *];try omega
         rw[if_neg e];exact hc () _ _ trivial (by simp[gc,Fr.keep,qaf,qae,qad,PV.refs,qaj,gcH,qai,Obj.refs,PV.ren,Obj.ren,Heap.obj,Fr.ren,gh,zzd]))
theorem qKf(T:Tab)(hT:HU T)(e:AEntry)(he:e.ok):T.val 1096 [e.dv]=some (.d (.b (qgx e)),false):=by
  rw[qab T (hT 1096 F1096 rfl) rfl];have lp:=fun k fr H => @qCL T e (he.2.2.2.2.2.2.2.2.1).1 k (some (.d (.b true),false)) fr H
  obtain⟨q,hq⟩:∃q,e.Legs.l.any qhi=q:=⟨_,rfl⟩;simp only[hq]at lp;have hs:qgx e=(decide (30<e.Legs.l.length)||decide (1000<e.Key.length)||decide (1000<e.Text.length)||q):=by rw[qgx,hq]
  clear hq
  simp[F1096,Fr.ofArgs];repeat' first
    | (refine qat (fun h => ?_) (fun h => ?_)<;>(try simp at h)<;>(try simp[h]))
    |refine (lp _ _ _ (by simp[qin,qip,qio]) (by simp[gc,Fr.keep,qaf,qae,qad,PV.refs,qaj,gcH,qai,Obj.refs,PV.ren,Obj.ren,Heap.obj,Fr.ren,gh,zzd])).trans ?_
  all_goals simp_all
  all_goals omega
theorem qCJ(T:Tab)(hT:HU T)(p:AProduct)(hn:p.Fees.l.length≤maxLen)(ho:∀f∈p.Fees.l,f.ok){k:KC (PV×Bool)}{r:Option (PV×Bool)}{fr:Fr}{H:Heap}(hr:qgb 2 k r)(h0:gc [1,3] 0 ⟨fr,H⟩=⟨[(3,(.d (I (0:Int)))),(1,(.p 0 0 0))],[some (.box (K1 19) (.d p.dv))]⟩) :
    kC T.env 0 fr H (.h (.loop [1,3] qpz,k))=brn (p.Fees.l.any (qgy)) (.h (r,k (.exit 0) [(51,.d (.b false)),(3,(.d (I (p.Fees.l.length:Int)))),(1,(.p 0 0 0))] [some (.box (K1 19) (.d p.dv))])):=by
  have hm:=mxl
  rw[qa3 p.Fees.l (fun i _=>⟨[(3,(.d (I (i:Int)))),(1,(.p 0 0 0))],[some (.box (K1 19) (.d p.dv))]⟩) (fun _ _=>True) (fun i _ x c=>if (qgy) x=true then r else c ()) (fun _=>k (.exit 0) [(51,.d (.b false)),(3,(.d (I (p.Fees.l.length:Int)))),(1,(.p 0 0 0))] [some (.box (K1 19) (.d p.dv))]) ?_ ?_ h0 trivial]
  · rw[qh2 (qgy) r]
    · cases p.Fees.l.any (qgy)<;>rfl
    · exact fun _ _ _ _=>rfl
  · intro B _ _ _
    simp
  · intro B _ i _ hi _ c hc
    have h1:(i:Int)<p.Fees.l.length:=by omega
    have h3:=wr1 (i:=i) (by omega)
    have o1:=ho _ (zzs hi)
    have e0:=qtt T hT p.Fees.l[i].When o1.2.2.1
    have e1:=qtt T hT p.Fees.l[i].Amount o1.2.2.2
    simp[h1,hi];repeat' (refine qat (fun h => ?_) (fun h => ?_)<;>(try simp at h)<;>(try simp[h,h1,hi,h3,e0,e1]))
    all_goals first
      | (have e:(qgy) p.Fees.l[i]=true:=by
           simp[qgy,grX, *];try omega
         rw[if_pos e];exact hr _ _ (by simp[Fr.get]) (by simp[qak,gh]))
      | (have e:¬(qgy) p.Fees.l[i]=true:=by
           simp[qgy,grX, *];try omega
         rw[if_neg e];exact hc () _ _ trivial (by simp[gc,Fr.keep,qaf,qae,qad,PV.refs,qaj,gcH,qai,Obj.refs,PV.ren,Obj.ren,Heap.obj,Fr.ren,gh,zzd]))
theorem qCK(T:Tab)(hT:HU T)(p:AProduct)(hn:p.Rules.l.length≤maxLen)(ho:∀f∈p.Rules.l,f.ok){k:KC (PV×Bool)}{r:Option (PV×Bool)}{fr:Fr}{H:Heap}(hr:qgb 2 k r)(h0:gc [1,4] 0 ⟨fr,H⟩=⟨[(4,(.d (I (0:Int)))),(1,(.p 0 0 0))],[some (.box (K1 19) (.d p.dv))]⟩) :
    kC T.env 0 fr H (.h (.loop [1,4] qpA,k))=brn (p.Rules.l.any (qgz)) (.h (r,k (.exit 2) [(84,.d (.b false)),(4,(.d (I (p.Rules.l.length:Int)))),(1,(.p 0 0 0))] [some (.box (K1 19) (.d p.dv))])):=by
  have hm:=mxl
  rw[qa3 p.Rules.l (fun i _=>⟨[(4,(.d (I (i:Int)))),(1,(.p 0 0 0))],[some (.box (K1 19) (.d p.dv))]⟩) (fun _ _=>True) (fun i _ x c=>if (qgz) x=true then r else c ()) (fun _=>k (.exit 2) [(84,.d (.b false)),(4,(.d (I (p.Rules.l.length:Int)))),(1,(.p 0 0 0))] [some (.box (K1 19) (.d p.dv))]) ?_ ?_ h0 trivial]
  · rw[qh2 (qgz) r]
    · cases p.Rules.l.any (qgz)<;>rfl
    · exact fun _ _ _ _=>rfl
  · intro B _ _ _
    simp
  · intro B _ i _ hi _ c hc
    have h1:(i:Int)<p.Rules.l.length:=by omega
    have h3:=wr1 (i:=i) (by omega)
    have o1:=ho _ (zzs hi)
    have e1:=qtt T hT p.Rules.l[i].Amount o1.2.2
    simp[h1,hi];repeat' (refine qat (fun h => ?_) (fun h => ?_)<;>(try simp at h)<;>(try simp[h,h1,hi,h3,e1]))
    all_goals first
      | (have e:(qgz) p.Rules.l[i]=true:=by
           simp[qgz,grX, *];try omega
         rw[if_pos e];exact hr _ _ (by simp[Fr.get]) (by simp[qak,gh]))
      | (have e:¬(qgz) p.Rules.l[i]=true:=by
           simp[qgz,grX, *];try omega
         rw[if_neg e];exact hc () _ _ trivial (by simp[gc,Fr.keep,qaf,qae,qad,PV.refs,qaj,gcH,qai,Obj.refs,PV.ren,Obj.ren,Heap.obj,Fr.ren,gh,zzd]))
theorem qKe(T:Tab)(hT:HU T)(p:AProduct)(hp:p.ok):T.val 1095 [p.dv]=some (.d (.b (qfz p)),false):=by
  rw[qab T (hT 1095 F1095 rfl) rfl];have lp0:=fun k fr H => @qCJ T hT p (hp.2.2.2.2.2.2.2.2.2.1).1 (hp.2.2.2.2.2.2.2.2.2.1).2 k (some (.d (.b true),false)) fr H
  have lp1:=fun k fr H => @qCK T hT p (hp.2.2.2.2.2.2.2.2.2.2).1 (hp.2.2.2.2.2.2.2.2.2.2).2 k (some (.d (.b true),false)) fr H
  obtain⟨q0,hq0⟩:∃q,p.Fees.l.any qgy=q:=⟨_,rfl⟩;obtain⟨q1,hq1⟩:∃q,p.Rules.l.any qgz=q:=⟨_,rfl⟩;simp only[hq0]at lp0;simp only[hq1]at lp1;have hs:qfz p=(decide (100<p.Name.length)||decide (100<p.Currency.length)||decide (100<p.Calendar.length)||decide (20<p.Credit.Tiers.l.length)||decide (20<p.Debit.Tiers.l.length)||decide (10<p.Fees.l.length)||decide (10<p.Rules.l.length)||q0||q1):=by rw[qfz,hq0,hq1]
  clear hq0 hq1
  simp[F1095,Fr.ofArgs];repeat' first
    | (refine qat (fun h => ?_) (fun h => ?_)<;>(try simp at h)<;>(try simp[h]))
    |refine (lp0 _ _ _ (by simp[qin,qip,qio]) (by simp[gc,Fr.keep,qaf,qae,qad,PV.refs,qaj,gcH,qai,Obj.refs,PV.ren,Obj.ren,Heap.obj,Fr.ren,gh,zzd])).trans ?_
    |refine (lp1 _ _ _ (by simp[qin,qip,qio]) (by simp[gc,Fr.keep,qaf,qae,qad,PV.refs,qaj,gcH,qai,Obj.refs,PV.ren,Obj.ren,Heap.obj,Fr.ren,gh,zzd])).trans ?_
  all_goals simp_all
  all_goals omega
theorem qCF(T:Tab)(hT:HU T)(b:ABooks)(hn:b.Products.l.length≤maxLen)(ho:∀f∈b.Products.l,f.ok){k:KC (PV×Bool)}{r:Option (PV×Bool)}{fr:Fr}{H:Heap}(hr:qgb 2 k r)(h0:gc [1,3] 0 ⟨fr,H⟩=⟨[(3,(.d (I (0:Int)))),(1,(.p 0 0 0))],[some (.box (K1 22) (.d b.dv))]⟩) :
    kC T.env 0 fr H (.h (.loop [1,3] qpv,k))=brn (b.Products.l.any (qfz)) (.h (r,k (.exit 0) [(55,.d (.b false)),(3,(.d (I (b.Products.l.length:Int)))),(1,(.p 0 0 0))] [some (.box (K1 22) (.d b.dv))])):=by
  have hm:=mxl
  rw[qa3 b.Products.l (fun i _=>⟨[(3,(.d (I (i:Int)))),(1,(.p 0 0 0))],[some (.box (K1 22) (.d b.dv))]⟩) (fun _ _=>True) (fun i _ x c=>if (qfz) x=true then r else c ()) (fun _=>k (.exit 0) [(55,.d (.b false)),(3,(.d (I (b.Products.l.length:Int)))),(1,(.p 0 0 0))] [some (.box (K1 22) (.d b.dv))]) ?_ ?_ h0 trivial]
  · rw[qh2 (qfz) r]
    · cases b.Products.l.any (qfz)<;>rfl
    · exact fun _ _ _ _=>rfl
  · intro B _ _ _
    simp
  · intro B _ i _ hi _ c hc
    have h1:(i:Int)<b.Products.l.length:=by omega
    have h3:=wr1 (i:=i) (by omega)
    have e1:=qKe T hT b.Products.l[i] (ho _ (zzs hi))
    obtain⟨q,hq⟩:∃q,qfz b.Products.l[i]=q:=⟨_,rfl⟩;rw[hq]at e1;simp[h1,hi,e1];repeat' (refine qat (fun h => ?_) (fun h => ?_)<;>(try simp at h)<;>(try simp[h3]))
    all_goals first
      | (have e:(qfz) b.Products.l[i]=true:=by
           simp[*];try omega
         rw[if_pos e];exact hr _ _ (by simp[Fr.get]) (by simp[qak,gh]))
      | (have e:¬(qfz) b.Products.l[i]=true:=by
           simp[*];try omega
         rw[if_neg e];exact hc () _ _ trivial (by simp[gc,Fr.keep,qaf,qae,qad,PV.refs,qaj,gcH,qai,Obj.refs,PV.ren,Obj.ren,Heap.obj,Fr.ren,gh,zzd]))
theorem qCG(T:Tab)(hT:HU T)(b:ABooks)(hn:b.Journal.l.length≤maxLen)(ho:∀f∈b.Journal.l,f.ok){k:KC (PV×Bool)}{r:Option (PV×Bool)}{fr:Fr}{H:Heap}(hr:qgb 2 k r)(h0:gc [1,4] 0 ⟨fr,H⟩=⟨[(4,(.d (I (0:Int)))),(1,(.p 0 0 0))],[some (.box (K1 22) (.d b.dv))]⟩) :
    kC T.env 0 fr H (.h (.loop [1,4] qpw,k))=brn (b.Journal.l.any (qgx)) (.h (r,k (.exit 2) [(68,.d (.b false)),(4,(.d (I (b.Journal.l.length:Int)))),(1,(.p 0 0 0))] [some (.box (K1 22) (.d b.dv))])):=by
  have hm:=mxl
  rw[qa3 b.Journal.l (fun i _=>⟨[(4,(.d (I (i:Int)))),(1,(.p 0 0 0))],[some (.box (K1 22) (.d b.dv))]⟩) (fun _ _=>True) (fun i _ x c=>if (qgx) x=true then r else c ()) (fun _=>k (.exit 2) [(68,.d (.b false)),(4,(.d (I (b.Journal.l.length:Int)))),(1,(.p 0 0 0))] [some (.box (K1 22) (.d b.dv))]) ?_ ?_ h0 trivial]
  · rw[qh2 (qgx) r]
    · cases b.Journal.l.any (qgx)<;>rfl
    · exact fun _ _ _ _=>rfl
  · intro B _ _ _
    simp
  · intro B _ i _ hi _ c hc
    have h1:(i:Int)<b.Journal.l.length:=by omega
    have h3:=wr1 (i:=i) (by omega)
    have e1:=qKf T hT b.Journal.l[i] (ho _ (zzs hi))
    obtain⟨q,hq⟩:∃q,qgx b.Journal.l[i]=q:=⟨_,rfl⟩;rw[hq]at e1;simp[h1,hi,e1];repeat' (refine qat (fun h => ?_) (fun h => ?_)<;>(try simp at h)<;>(try simp[h3]))
    all_goals first
      | (have e:(qgx) b.Journal.l[i]=true:=by
           simp[*];try omega
         rw[if_pos e];exact hr _ _ (by simp[Fr.get]) (by simp[qak,gh]))
      | (have e:¬(qgx) b.Journal.l[i]=true:=by
           simp[*];try omega
         rw[if_neg e];exact hc () _ _ trivial (by simp[gc,Fr.keep,qaf,qae,qad,PV.refs,qaj,gcH,qai,Obj.refs,PV.ren,Obj.ren,Heap.obj,Fr.ren,gh,zzd]))
theorem qCH(T:Tab)(b:ABooks)(hn:b.Calendars.l.length≤maxLen){k:KC (PV×Bool)}{r:Option (PV×Bool)}{fr:Fr}{H:Heap}(hr:qgb 2 k r)(h0:gc [1,5] 0 ⟨fr,H⟩=⟨[(5,(.d (I (0:Int)))),(1,(.p 0 0 0))],[some (.box (K1 22) (.d b.dv))]⟩) :
    kC T.env 0 fr H (.h (.loop [1,5] qpx,k))=brn (b.Calendars.l.any (qhg)) (.h (r,k (.exit 4) [(81,.d (.b false)),(5,(.d (I (b.Calendars.l.length:Int)))),(1,(.p 0 0 0))] [some (.box (K1 22) (.d b.dv))])):=by
  have hm:=mxl
  rw[qa3 b.Calendars.l (fun i _=>⟨[(5,(.d (I (i:Int)))),(1,(.p 0 0 0))],[some (.box (K1 22) (.d b.dv))]⟩) (fun _ _=>True) (fun i _ x c=>if (qhg) x=true then r else c ()) (fun _=>k (.exit 4) [(81,.d (.b false)),(5,(.d (I (b.Calendars.l.length:Int)))),(1,(.p 0 0 0))] [some (.box (K1 22) (.d b.dv))]) ?_ ?_ h0 trivial]
  · rw[qh2 (qhg) r]
    · cases b.Calendars.l.any (qhg)<;>rfl
    · exact fun _ _ _ _=>rfl
  · intro B _ _ _
    simp
  · intro B _ i _ hi _ c hc
    have h1:(i:Int)<b.Calendars.l.length:=by omega
    have h3:=wr1 (i:=i) (by omega)
    simp[h1,hi];repeat' (refine qat (fun h => ?_) (fun h => ?_)<;>(try simp at h)<;>(try simp[h,h1,hi,h3]))
    all_goals first
      | (have e:(qhg) b.Calendars.l[i]=true:=by
           simp[qhg, *];try omega
         rw[if_pos e];exact hr _ _ (by simp[Fr.get]) (by simp[qak,gh]))
      | (have e:¬(qhg) b.Calendars.l[i]=true:=by
           simp[qhg, *];try omega
         rw[if_neg e];exact hc () _ _ trivial (by simp[gc,Fr.keep,qaf,qae,qad,PV.refs,qaj,gcH,qai,Obj.refs,PV.ren,Obj.ren,Heap.obj,Fr.ren,gh,zzd]))
theorem qKc(T:Tab)(hT:HU T)(b:ABooks)(hb:b.ok):T.val 1090 [b.dv]=some (.d (.b (qgX b)),false):=by
  rw[qab T (hT 1090 F1090 rfl) rfl];have lp0:=fun k fr H => @qCF T hT b (hb.2.2.2.2.1).1 (hb.2.2.2.2.1).2 k (some (.d (.b true),false)) fr H
  have lp1:=fun k fr H => @qCG T hT b (hb.2.2.2.2.2.2.1).1 (hb.2.2.2.2.2.2.1).2 k (some (.d (.b true),false)) fr H
  have lp2:=fun k fr H => @qCH T b (hb.2.1).1 k (some (.d (.b true),false)) fr H
  have e:=qKd T hT b.Holds.l b.Holds.t (hb.2.2.2.2.2.2.2.1).1
  obtain⟨q0,hq0⟩:∃q,b.Products.l.any qfz=q:=⟨_,rfl⟩;obtain⟨q1,hq1⟩:∃q,b.Journal.l.any qgx=q:=⟨_,rfl⟩;obtain⟨q2,hq2⟩:∃q,b.Calendars.l.any qhg=q:=⟨_,rfl⟩;obtain⟨q3,hq3⟩:∃q,qmr b.Holds.l=q:=⟨_,rfl⟩;simp only[hq0]at lp0;simp only[hq1]at lp1;simp only[hq2]at lp2;simp only[hq3]at e;have hs:qgX b=(decide (20<b.Currencies.l.length)||decide (10<b.Calendars.l.length)||decide (60<b.Chart.l.length)||decide (20<b.Products.l.length)||decide (40<b.Accounts.l.length)||decide (150<b.Journal.l.length)||q3||decide (100<b.Blocks.l.length)||q0||q1||q2):=by rw[qgX,hq0,hq1,hq2,hq3]
  clear hq0 hq1 hq2 hq3
  simp[F1090,Fr.ofArgs];repeat' first
    | (refine qat (fun h => ?_) (fun h => ?_)<;>(try simp at h)<;>(try simp[h,e]))
    |refine (lp0 _ _ _ (by simp[qin,qip,qio]) (by simp[gc,Fr.keep,qaf,qae,qad,PV.refs,qaj,gcH,qai,Obj.refs,PV.ren,Obj.ren,Heap.obj,Fr.ren,gh,zzd])).trans ?_
    |refine (lp1 _ _ _ (by simp[qin,qip,qio]) (by simp[gc,Fr.keep,qaf,qae,qad,PV.refs,qaj,gcH,qai,Obj.refs,PV.ren,Obj.ren,Heap.obj,Fr.ren,gh,zzd])).trans ?_
    |refine (lp2 _ _ _ (by simp[qin,qip,qio]) (by simp[gc,Fr.keep,qaf,qae,qad,PV.refs,qaj,gcH,qai,Obj.refs,PV.ren,Obj.ren,Heap.obj,Fr.ren,gh,zzd])).trans ?_
  all_goals simp_all
  all_goals omega
def qgD(id:Int)(x:ALeg):Bool:=x.Account==id
def tch(id:Int)(e:AEntry):Bool:=e.Legs.l.any (qgD id)
theorem qq9{α:Type}(p:α→Bool)(l:List α):decide (0≤qhV p l)=l.any p:=by
  unfold qhV;cases h:l.findIdx? p with
  |none =>
    have:=List.findIdx?_eq_none_iff.1 h
    have:l.any p=false:=by
      rw[List.any_eq_false];intro x hx;simpa using this x hx
    rw[this];rfl
  |some j =>
    have:l.any p=true:=by
      obtain⟨hj,h1,-⟩:=List.findIdx?_eq_some_iff_getElem.1 h;exact List.any_eq_true.2 ⟨_,zzs hj,h1⟩
    rw[this];simp
theorem qIu{α:Type}(T:Tab)(hT:HV T)(g:Nat)(dv:α→DV)(p:α→Bool)(c:PV)(cs:List PV)(H0:Heap)(hH:Cl H0)(hc:∀r∈PV.refsL (c::cs),r<H0.length)(l:List α)(hv:∀x∈l,T.ref g (.d (dv x)::c::cs) H0=some (.d (.b (p x)),H0))(s:Bool)(hn:l.length≤maxLen) :
    T.ref 708 [.d (.l (K1 3) (l.map dv) s),.f g (c::cs)] H0=some (.d (.b (l.any p)),H0):=by
  rw[qeJ T (hT 708 qlB rfl) rfl];have e:=qoL T (hT 265 qi2 rfl) g dv p c cs H0 hH hc l hv s hn
  have e2:=qq9 p l
  simp[qlB,Fr.ofArgs,e,e2,qbQ,qmo hH]
theorem qIy(T:Tab)(hT:HV T)(x:ALeg)(e:AEntry)(id:Int):T.ref 934 [.d x.dv,.p 1 0 0] [some (.box (K1 10) (.d e.dv)),some (.box K0 (.d (I id)))]=some (.d (.b (qgD id x)),[some (.box (K1 10) (.d e.dv)),some (.box K0 (.d (I id)))]):=by
  rw[qeJ T (hT 934 qlN rfl) rfl];have hH:=qnb (K1 10) K0 e.dv (I id)
  simp[qlN,Fr.ofArgs,qbQ,qgD];exact (qhf hH [some (.box (K1 3) (.d x.dv))] _)
theorem qLn(T:Tab)(hT:HV T)(e:AEntry)(id:Int)(hn:e.Legs.l.length≤maxLen):T.val 883 [e.dv,I id]=some (.d (.b (tch id e)),false):=by
  rw[qab T (hT 883 qlJ rfl) rfl];have e1:=qIu T hT 934 ALeg.dv (qgD id) (.p 1 0 0) [] [some (.box (K1 10) (.d e.dv)),some (.box K0 (.d (I id)))] (qnb _ _ _ _) (by simp[PV.refs,PV.refsL]) e.Legs.l (fun a _=>qIy T hT a e id) e.Legs.t hn
  simp[qlJ,Fr.ofArgs,e1,tch]
theorem qCB(T:Tab)(e:AEntry)(id:Int)(hn:e.Legs.l.length≤maxLen){k:KC (PV×Bool)}{r:Option (PV×Bool)}{fr:Fr}{H:Heap}(hr:qgb 4 k r)(h0:gc [1,2,5] 0 ⟨fr,H⟩=⟨[(5,.d (I (0:Int))),(2,.p 0 0 0),(1,.d (I id))],[some (.box (K1 10) (.d e.dv))]⟩) :
    kC T.env 0 fr H (.h (.loop [1,2,5] qps,k))=brn (e.Legs.l.any (qgD id)) (.h (r,k (.exit 0) [(10,.d (.b false)),(5,.d (I (e.Legs.l.length:Int))),(2,.p 0 0 0),(1,.d (I id))] [some (.box (K1 10) (.d e.dv))])):=by
  have hm:=mxl
  rw[qa3 e.Legs.l (fun i _=>⟨[(5,.d (I (i:Int))),(2,.p 0 0 0),(1,.d (I id))],[some (.box (K1 10) (.d e.dv))]⟩) (fun _ _=>True) (fun i _ x c=>if (qgD id) x=true then r else c ()) (fun _=>k (.exit 0) [(10,.d (.b false)),(5,.d (I (e.Legs.l.length:Int))),(2,.p 0 0 0),(1,.d (I id))] [some (.box (K1 10) (.d e.dv))]) ?_ ?_ h0 trivial]
  · rw[qh2 (qgD id) r]
    · cases e.Legs.l.any (qgD id)<;>rfl
    · exact fun _ _ _ _=>rfl
  · intro B _ _ _
    simp
  · intro B _ i _ hi _ c hc
    have h1:(i:Int)<e.Legs.l.length:=by omega
    have h3:=wr1 (i:=i) (by omega)
    simp[h1,hi];repeat' (refine qat (fun h => ?_) (fun h => ?_)<;>(try simp at h)<;>(try simp[h3]))
    all_goals first
      | (have e:(qgD id) e.Legs.l[i]=true:=by
           simp[qgD, *];try omega
         rw[if_pos e];exact hr _ _ (by simp[Fr.get]) (by simp[qak,gh]))
      | (have e:¬(qgD id) e.Legs.l[i]=true:=by
           simp[qgD, *];try omega
         rw[if_neg e];exact hc () _ _ trivial (by simp[gc,Fr.keep,qaf,qae,qad,PV.refs,qaj,gcH,qai,Obj.refs,PV.ren,Obj.ren,Heap.obj,Fr.ren,gh,zzd]))
theorem qJS(T:Tab)(hT:HV T)(e:AEntry)(id:Int)(hn:e.Legs.l.length≤maxLen):T.val 1047 [e.dv,I id]=some (.d (.b (tch id e)),false):=by
  rw[qab T (hT 1047 F1047 rfl) rfl];have lp:=fun k r fr H => @qCB T e id hn k r fr H
  unfold tch;simp[F1047,Fr.ofArgs];refine (lp _ (some (.d (.b true),false)) _ _ (by simp[qin,qip,qio]) (by simp[gc,Fr.keep,qaf,qae,qad,PV.refs,qaj,gcH,qai,Obj.refs,PV.ren,Obj.ren,Heap.obj,Fr.ren,gh,zzd])).trans ?_
  refine qat (fun h => ?_) (fun h => ?_)
  · rw[h]
  · simp[h]
def qez(id frm upto:Int)(_:Nat)(n:Int)(e:AEntry):Int:=if (decide (frm≤e.Booked)&&(decide (e.Booked≤upto)&&tch id e))=true then w64 (n+1)else n
def qhO(j:List AEntry)(id frm upto:Int):Int:=qag (qez id frm upto) 0 0 j
theorem qC7(T:Tab)(hT:HV T)(a:AAccount)(l:List AEntry)(t:Bool)(id frm upto amt now low vol:Int)(hn:l.length≤maxLen)(ho:∀e∈l,e.ok){k:KC (PV×Bool)}{fr:Fr}{H:Heap}(h0:gc [1,2,3,10,12,13,14,16,18,75,76,77] 0 ⟨fr,H⟩=⟨[(77,(.d (I (0:Int)))),(76,(.d (I l.length))),(75,(.d (.l (K1 10) (l.map AEntry.dv) t))),(18,(.d (I 0))),(16,(.d (I vol))),(14,(.d (I low))),(13,(.d (I now))),(12,(.d (I frm))),(10,(.p 0 0 0)),(3,(.d (I amt))),(2,(.d (I upto))),(1,(.d (I id)))],[some (.box (K1 7) (.d a.dv))]⟩) :
    kC T.env 0 fr H (.h (.loop [1,2,3,10,12,13,14,16,18,75,76,77] qpP,k))=k (.exit 1) [(78,.d (.b false)),(77,(.d (I (l.length:Int)))),(76,(.d (I l.length))),(75,(.d (.l (K1 10) (l.map AEntry.dv) t))),(18,(.d (I (qag (qez id frm upto) 0 0 l)))),(16,(.d (I vol))),(14,(.d (I low))),(13,(.d (I now))),(12,(.d (I frm))),(10,(.p 0 0 0)),(3,(.d (I amt))),(2,(.d (I upto))),(1,(.d (I id)))] [some (.box (K1 7) (.d a.dv))]:=by
  rw[qa3 l (fun i (b:Int)=>⟨[(77,(.d (I (i:Int)))),(76,(.d (I l.length))),(75,(.d (.l (K1 10) (l.map AEntry.dv) t))),(18,(.d (I b))),(16,(.d (I vol))),(14,(.d (I low))),(13,(.d (I now))),(12,(.d (I frm))),(10,(.p 0 0 0)),(3,(.d (I amt))),(2,(.d (I upto))),(1,(.d (I id)))],[some (.box (K1 7) (.d a.dv))]⟩) (fun _ _=>True) (fun i b x c=>c (qez id frm upto i b x)) (fun b=>k (.exit 1) [(78,.d (.b false)),(77,(.d (I (l.length:Int)))),(76,(.d (I l.length))),(75,(.d (.l (K1 10) (l.map AEntry.dv) t))),(18,(.d (I b))),(16,(.d (I vol))),(14,(.d (I low))),(13,(.d (I now))),(12,(.d (I frm))),(10,(.p 0 0 0)),(3,(.d (I amt))),(2,(.d (I upto))),(1,(.d (I id)))] [some (.box (K1 7) (.d a.dv))]) ?_ ?_ h0 trivial]
  · rw[qbG (qez id frm upto) _ _ (fun _ _ _ _=>rfl)]
  · intro B _ b _
    simp
  · intro B _ i b hi _ c hc
    have hm:=mxl
    have h1:(i:Int)<l.length:=by omega
    have h3:=wr1 (i:=i) (by omega)
    have hl:l[i].Legs.l.length≤maxLen:=((ho _ (zzs hi)).2.2.2.2.2.2.2.2.1).1
    have hv:=qLn T hT l[i] id hl
    obtain⟨q,hq⟩:∃q,tch id l[i]=q:=⟨_,rfl⟩;rw[hq]at hv;simp[h1,hi];repeat' (refine qat (fun h => ?_) (fun h => ?_)<;>(try simp at h)<;>(try simp[h,h3,hv]))
    all_goals first
      | (have e:(qez id frm upto) i b l[i]=w64 (b+1):=by
           simp[qez, *];try (intros;omega)
         rw[e];exact hc _ _ _ trivial (by simp[gc,Fr.keep,qaf,qae,qad,PV.refs,qaj,gcH,qai,Obj.refs,PV.ren,Obj.ren,Heap.obj,Fr.ren,gh,zzd,w64];try rfl))
      | (have e:(qez id frm upto) i b l[i]=b:=by
           simp[qez, *];try (intros;omega)
         rw[e];exact hc _ _ _ trivial (by simp[gc,Fr.keep,qaf,qae,qad,PV.refs,qaj,gcH,qai,Obj.refs,PV.ren,Obj.ren,Heap.obj,Fr.ren,gh,zzd];try rfl))
theorem qCv(T:Tab)(hT:HV T)(l:List AEntry)(t:Bool)(id frm upto:Int)(hn:l.length≤maxLen)(ho:∀e∈l,e.ok){k:KC (PV×Bool)}{fr:Fr}{H:Heap}(h0:gc [0,1,2,3,9,10] 0 ⟨fr,H⟩=⟨[(10,(.d (I (0:Int)))),(9,(.d (I 0))),(3,(.d (I upto))),(2,(.d (I frm))),(1,(.d (I id))),(0,(.d (.l (K1 10) (l.map AEntry.dv) t)))],[]⟩) :
    kC T.env 0 fr H (.h (.loop [0,1,2,3,9,10] qpo,k))=k (.exit 0) [(14,.d (.b false)),(10,(.d (I (l.length:Int)))),(9,(.d (I (qag (qez id frm upto) 0 0 l)))),(3,(.d (I upto))),(2,(.d (I frm))),(1,(.d (I id))),(0,(.d (.l (K1 10) (l.map AEntry.dv) t)))] []:=by
  rw[qa3 l (fun i (b:Int)=>⟨[(10,(.d (I (i:Int)))),(9,(.d (I b))),(3,(.d (I upto))),(2,(.d (I frm))),(1,(.d (I id))),(0,(.d (.l (K1 10) (l.map AEntry.dv) t)))],[]⟩) (fun _ _=>True) (fun i b x c=>c (qez id frm upto i b x)) (fun b=>k (.exit 0) [(14,.d (.b false)),(10,(.d (I (l.length:Int)))),(9,(.d (I b))),(3,(.d (I upto))),(2,(.d (I frm))),(1,(.d (I id))),(0,(.d (.l (K1 10) (l.map AEntry.dv) t)))] []) ?_ ?_ h0 trivial]
  · rw[qbG (qez id frm upto) _ _ (fun _ _ _ _=>rfl)]
  · intro B _ b _
    simp
  · intro B _ i b hi _ c hc
    have hm:=mxl
    have h1:(i:Int)<l.length:=by omega
    have h3:=wr1 (i:=i) (by omega)
    have hl:l[i].Legs.l.length≤maxLen:=((ho _ (zzs hi)).2.2.2.2.2.2.2.2.1).1
    have hv:=qJS T hT l[i] id hl
    obtain⟨q,hq⟩:∃q,tch id l[i]=q:=⟨_,rfl⟩;rw[hq]at hv;simp[h1,hi];repeat' (refine qat (fun h => ?_) (fun h => ?_)<;>(try simp at h)<;>(try simp[h,h1,hi,h3,hv]))
    all_goals first
      | (have e:(qez id frm upto) i b l[i]=w64 (b+1):=by
           simp[qez, *];try (intros;omega)
         rw[e];exact hc _ _ _ trivial (by simp[gc,Fr.keep,qaf,qae,qad,PV.refs,gcH,PV.ren,Obj.ren,Heap.obj,Fr.ren,gh,w64];try rfl))
      | (have e:(qez id frm upto) i b l[i]=b:=by
           simp[qez, *];try (intros;omega)
         rw[e];exact hc _ _ _ trivial (by simp[gc,Fr.keep,qaf,qae,qad,PV.refs,gcH,PV.ren,Obj.ren,Heap.obj,Fr.ren,gh];try rfl))
theorem qJL(T:Tab)(hT:HV T)(l:List AEntry)(t:Bool)(id frm upto:Int)(hn:l.length≤maxLen)(ho:∀e∈l,e.ok):T.val 1039 [.l (K1 10) (l.map AEntry.dv) t,I id,I frm,I upto]=some (.d (I (qhO l id frm upto)),false):=by
  rw[qab T (hT 1039 F1039 rfl) rfl];simp[F1039,Fr.ofArgs];refine (qCv T hT l t id frm upto hn ho (by simp[gc,Fr.keep,qaf,qae,qad,PV.refs,gcH,PV.ren,Obj.ren,Heap.obj,Fr.ren,gh])).trans ?_
  simp[qhO]
def qgj:List Int→Int
  | []=>0
  |x::r=>r.foldl min x
theorem qu7:∀(r:List Int) (i:Nat) (b:Int),qag (fun _ b x=>min b x) i b r=r.foldl min b
  | [],_,_=>rfl
  |x::r,i,b=>by rw[qag,qu7 r,List.foldl_cons]
theorem qDe(T:Tab)(x:Int)(l:List Int)(t:Bool)(hn:l.length<maxLen){k:KC (PV×Bool)}{fr:Fr}{H:Heap}(h0:gc [0,3,4] 0 ⟨fr,H⟩=⟨[(4,.d (I 1)),(3,.d (I x)),(0,.d (.l K0 (I x::l.map I) t))],[]⟩) :
    kC T.env 0 fr H (.h (.loop [0,3,4] qpR,k))=k (.exit 0) [(15,.d (.b false)),(4,.d (I (l.length+1))),(3,.d (I (l.foldl min x))),(0,.d (.l K0 (I x::l.map I) t))] []:=by
  have hm:=mxl
  rw[qa3 l (fun i (b:Int)=>⟨[(4,.d (I ((i:Int)+1))),(3,.d (I b)),(0,.d (.l K0 (I x::l.map I) t))],[]⟩) (fun _ _=>True) (fun i b y c=>c (min b y)) (fun b=>k (.exit 0) [(15,.d (.b false)),(4,.d (I (l.length+1))),(3,.d (I b)),(0,.d (.l K0 (I x::l.map I) t))] []) ?_ ?_ (by simpa using h0) trivial]
  · rw[qbG (fun _ b y=>min b y) _ _ (fun _ _ _ _=>rfl),qu7]
  · intro B _ b _
    simp
  · intro B _ i b hi _ c hc
    have h1:(i:Int)+1<l.length+1:=by omega
    have h3:IntKind.i64.wrap ((i:Int)+1+1)=(i:Int)+1+1:=wrI (by omega) (by omega)
    have h4:(0:Int)≤(i:Int)+1:=by omega
    have h5:((i:Int)+1).toNat=i+1:=by omega
    simp[h1,hi,h3,h4,↓qzo];exact hc _ _ _ trivial (by simp[gc,Fr.keep,qaf,qae,qad,PV.refs,gcH,PV.ren,Obj.ren,Heap.obj,Fr.ren,gh])
theorem qLk(T:Tab)(hT:HV T)(x:Int)(l:List Int)(t:Bool)(hn:l.length<maxLen):T.val 881 [.l K0 ((x::l).map I) t]=some (.d (I (qgj (x::l))),false):=by
  rw[qab T (hT 881 F881 rfl) rfl];have h1:¬((l.length:Int)+1<1):=by omega
  have h2:(0:Int)<(l.length:Int)+1:=by omega
  have lp:=fun k fr H => @qDe T x l t hn k fr H
  simp[F881,Fr.ofArgs,h1,h2];refine (lp _ _ _ (by simp[gc,Fr.keep,qaf,qae,qad,PV.refs,gcH,PV.ren,Obj.ren,Heap.obj,Fr.ren,gh])).trans ?_
  simp[qgj]
def qgf(i:Nat)(b x:Int):Int:=if i=0∨x<b then x else b
theorem qu6:∀(r:List Int) (i:Nat) (b:Int),0<i→qag qgf i b r=r.foldl min b
  | [],_,_,_=>rfl
  |x::r,i,b,h=>by
    rw[qag,qu6 r (i+1) _ (by omega),List.foldl_cons]
    congr 1
    unfold qgf;split<;>omega
theorem qCf(l:List Int):qag qgf 0 0 l=qgj l:=by
  cases l with
  |nil=>rfl
  |cons x r=>rw[qag,qu6 r 1 _ (by omega)];simp[qgf,qgj]
theorem qCs(T:Tab)(l:List Int)(t:Bool)(hn:l.length≤maxLen){k:KC (PV×Bool)}{fr:Fr}{H:Heap}(h0:gc [0,3,4] 0 ⟨fr,H⟩=⟨[(4,(.d (I (0:Int)))),(3,(.d (I 0))),(0,(.d (.l K0 (l.map I) t)))],[]⟩) :
    kC T.env 0 fr H (.h (.loop [0,3,4] qnh,k))=k (.exit 0) [(8,.d (.b false)),(4,(.d (I (l.length:Int)))),(3,(.d (I (qag (qgf) 0 0 l)))),(0,(.d (.l K0 (l.map I) t)))] []:=by
  rw[qa3 l (fun i (b:Int)=>⟨[(4,(.d (I (i:Int)))),(3,(.d (I b))),(0,(.d (.l K0 (l.map I) t)))],[]⟩) (fun _ _=>True) (fun i b x c=>c (qgf i b x)) (fun b=>k (.exit 0) [(8,.d (.b false)),(4,(.d (I (l.length:Int)))),(3,(.d (I b))),(0,(.d (.l K0 (l.map I) t)))] []) ?_ ?_ h0 trivial]
  · rw[qbG (qgf) _ _ (fun _ _ _ _=>rfl)]
  · intro B _ b _
    simp
  · intro B _ i b hi _ c hc
    have hm:=mxl
    have h1:(i:Int)<l.length:=by omega
    have h3:=wr1 (i:=i) (by omega)
    rcases Nat.eq_zero_or_pos i with rfl|h0i
    · have e:qgf 0 b l[0]=l[0]:=by simp[qgf]
      rw[e];have w1:IntKind.i64.wrap 1=1:=rfl
      simp[hi,w1];exact hc _ _ _ trivial (by simp[gc,Fr.keep,qaf,qae,qad,PV.refs,gcH,PV.ren,Obj.ren,Heap.obj,Fr.ren,gh])
    · have hne:((i:Int)==0)=false:=by simp;omega
      have hne2:i≠0:=by omega
      simp[h1,hi,hne];repeat' (refine qat (fun h => ?_) (fun h => ?_)<;>(try simp at h)<;>(try simp[h1,hi,h3]))
      all_goals first
        | (have e:qgf i b l[i]=l[i]:=by
             simp[qgf, *];done
           rw[e];exact hc _ _ _ trivial (by simp[gc,Fr.keep,qaf,qae,qad,PV.refs,gcH,PV.ren,Obj.ren,Heap.obj,Fr.ren,gh]))
        | (have e:qgf i b l[i]=b:=by
             simp[qgf, *];try (intros;omega)
           rw[e];exact hc _ _ _ trivial (by simp[gc,Fr.keep,qaf,qae,qad,PV.refs,gcH,PV.ren,Obj.ren,Heap.obj,Fr.ren,gh]))
theorem qJI(T:Tab)(hT:HV T)(l:List Int)(t:Bool)(hn:l.length≤maxLen):T.val 1036 [.l K0 (l.map I) t]=some (.d (I (qgj l)),false):=by
  rw[qab T (hT 1036 F1036 rfl) rfl,←qCf];have lp:=fun k fr H => @qCs T l t hn k fr H
  simp[F1036,Fr.ofArgs];refine (lp _ _ _ (by simp[gc,Fr.keep,qaf,qae,qad,PV.refs,gcH,PV.ren,Obj.ren,Heap.obj,Fr.ren,gh])).trans ?_
  simp
section
attribute [local simp ↓] qbJ qbT qbx qeG qbS qfk qbt qbw qce qeV qeW qcq qcr qbv qey qbz qe0 qeZ qe6 qfi qeY qfg qff qbD qe2 qbX qe3 qe5 qe4 qe7 qe1 qe9 qfb qfe qfd qfc qe8 qfa qfh qex qeX
attribute [local simp] qby qbe writeS touchS qaD qa4 chg qbm qbb qaY qbc PV.refs PV.refsL IOp.okD IOp.barr qb2 Nat.testBit
attribute [local simp] gc Fr.keep qaf qae qad PV.refs PV.refsL qaj gcH qai Obj.refs PV.ren PV.renL Obj.ren Heap.obj Fr.ren gh zzd
def Ans{R:Type}(Q:R→Prop)(x:Option R):Prop:=∃r,x=some r∧Q r
theorem qtX{R:Type}{Q:R→Prop}{c:Bool}{x y:Option R}(h1:c=true→Ans Q x)(h2:c=false→Ans Q y):Ans Q (brn c (.h (x,y))):=by
 cases c with
 |true=>exact h1 rfl
 |false=>exact h2 rfl
theorem qbP{R:Type}{Q:R→Prop}{r:R}(h:Q r):Ans Q (some r):=⟨r,rfl,h⟩
def qbU(op:Int):Int:=if op=1∨op=2∨op=3∨op=4 then 0 else if op=9∨op=16 then 1 else if op=19 then 3 else if 5≤op∧op≤18 then 2 else -1
def qgk(op:Int):Int:=if op=1 then 9223372036854775807 else if op=2 then 1000000000000 else if op=3 then 1000000 else 0
def qhT(x:AExpr):Bool:=qbU x.Op==(x.Args.l.length:Int)&&decide (0≤x.N)&&decide (x.N≤qgk x.Op)&&(x.S==[]||x.Op==4)
theorem qKx(T:Tab)(hT:HT T)(op:Int):T.val 414 [I op]=some (.d (I (qbU op)),false):=by
 rw[qab T (hT 414 qfW rfl) rfl];by_cases c1:op=1
 ·subst c1;rw[show qbU 1=0 from rfl]
  simp[qfW,Fr.ofArgs]
 have d1:=qac c1
 by_cases c2:op=2
 ·subst c2;rw[show qbU 2=0 from rfl]
  simp[qfW,Fr.ofArgs]
 have d2:=qac c2
 by_cases c3:op=3
 ·subst c3;rw[show qbU 3=0 from rfl]
  simp[qfW,Fr.ofArgs]
 have d3:=qac c3
 by_cases c4:op=4
 ·subst c4;rw[show qbU 4=0 from rfl]
  simp[qfW,Fr.ofArgs]
 have d4:=qac c4
 by_cases c9:op=9
 ·subst c9;rw[show qbU 9=1 from rfl]
  simp[qfW,Fr.ofArgs]
 have d9:=qac c9
 by_cases c16:op=16
 ·subst c16;rw[show qbU 16=1 from rfl]
  simp[qfW,Fr.ofArgs]
 have d16:=qac c16
 by_cases c19:op=19
 ·subst c19;rw[show qbU 19=3 from rfl]
  simp[qfW,Fr.ofArgs]
 have d19:=qac c19
 rw[qbU,if_neg (by omega),if_neg (by omega),if_neg c19]
 by_cases h1:5≤op
 ·by_cases h2:op≤18
  ·rw[if_pos ⟨h1,h2⟩];simp[qfW,Fr.ofArgs,d1,d2,d3,d4,d9,d16,d19,h1,h2]
  ·rw[if_neg (fun h=>h2 h.2)]
   simp[qfW,Fr.ofArgs,d1,d2,d3,d4,d9,d16,d19,h1,h2]
 ·rw[if_neg (fun h=>h1 h.1)]
  simp[qfW,Fr.ofArgs,d1,d2,d3,d4,d9,d16,d19,h1]
theorem qKu(T:Tab)(hT:HT T)(x:AExpr):T.val 408 [x.dv]=some (.d (.b (qhT x)),false):=by
 have e:=qKx T hT x.Op
 have hop:(x.Op=1∧qgk x.Op=9223372036854775807)∨(x.Op=2∧qgk x.Op=1000000000000)∨(x.Op=3∧qgk x.Op=1000000)∨(x.Op≠1∧x.Op≠2∧x.Op≠3∧qgk x.Op=0):=by
  unfold qgk;by_cases c1:x.Op=1
  ·exact .inl ⟨c1,if_pos c1⟩
  ·by_cases c2:x.Op=2
   ·exact .inr (.inl ⟨c2,by rw[if_neg c1,if_pos c2]⟩)
   ·by_cases c3:x.Op=3
    ·exact .inr (.inr (.inl ⟨c3,by rw[if_neg c1,if_neg c2,if_pos c3]⟩))
    ·exact .inr (.inr (.inr ⟨c1,c2,c3,by rw[if_neg c1,if_neg c2,if_neg c3]⟩))
 obtain⟨o,n,s,a⟩:=x;unfold qhT;simp only at e hop⊢;generalize qgk o=M at *
 obtain⟨r,hr⟩:∃r:Option (PV×Bool),some (.d (.b (qbU o==(a.l.length:Int)&&decide (0≤n)&&decide (n≤M)&&(s==[]||o==4))),false)=r:=⟨_,rfl⟩;rw[qab T (hT 408 qh8 rfl) rfl,hr];generalize qbU o=q at *
 rcases hop with ⟨rfl,rfl⟩|⟨rfl,rfl⟩|⟨rfl,rfl⟩|⟨n1,n2,n3,rfl⟩
 ·simp[qh8,Fr.ofArgs,e];rw[←hr];repeat' (refine qat (fun h => ?_) (fun h => ?_)<;>(try simp at h)<;>(try simp[h]))
  all_goals (intros;omega)
 ·simp[qh8,Fr.ofArgs,e];rw[←hr];repeat' (refine qat (fun h => ?_) (fun h => ?_)<;>(try simp at h)<;>(try simp[h]))
  all_goals (intros;omega)
 ·simp[qh8,Fr.ofArgs,e];rw[←hr];repeat' (refine qat (fun h => ?_) (fun h => ?_)<;>(try simp at h)<;>(try simp[h]))
  all_goals (intros;omega)
 ·have g1:=qac n1
  have g2:=qac n2
  have g3:=qac n3
  simp[qh8,Fr.ofArgs,e,g1,g2,g3];rw[←hr];repeat' (refine qat (fun h => ?_) (fun h => ?_)<;>(try simp at h)<;>(try simp[h]))
  all_goals (intros;omega)
theorem qg9{α β:Type}[Nonempty β]{l:List α}{P:α→β→Prop}(h:∀a∈l,∃b,P a b):∃g:α→β,∀a∈l,P a (g a) :=
 ⟨fun a=>Classical.epsilon (P a),fun a ha=>Classical.epsilon_spec (h a ha)⟩
theorem qiA{x:AExpr}{l:List AExpr}(h:x.Args.l=l.map AExpr.dv){a:AExpr}(ha:a∈l):SizeOf.sizeOf a.dv<SizeOf.sizeOf x.dv:=by
 have:=List.sizeOf_lt_of_mem (List.mem_map_of_mem (f:=AExpr.dv) ha)
 rw[←h]at this;simp only[AExpr.dv,DV.a.sizeOf_spec,List.cons.sizeOf_spec,DV.l.sizeOf_spec]at this⊢;omega
theorem qiB{x:AExpr}(hx:x.ok):∃l:List AExpr,x.Args.l=l.map AExpr.dv∧(∀a∈l,a.ok)∧l.length*56≤140737488355328:=by
 obtain⟨o,m,s,a⟩:=x;obtain⟨a,t⟩:=a;obtain⟨_,_,_,hX⟩:=hx;simp only at hX;obtain⟨h1,l,h2,h3⟩:=qt2 hX;refine⟨l,h2,h3,?_⟩;cases hX with|mk _ _ _ h=>rw[h2]at h;simpa[qb3]using h
theorem qCS(T:Tab)(l:List AExpr)(t:Bool)(g:AExpr→Int)(hg:∀a∈l,T.val 405 [a.dv]=some (.d (I (g a)),false))(hn:l.length*56≤140737488355328){k:KC (PV×Bool)}{r:Option (PV×Bool)}{fr:Fr}{H:Heap}
  (he:k (.exit 0) [(10,.d (.b false)),(9,.d (I l.length)),(8,.d (I l.length)),(7,.d (.l (K1 4) (l.map AExpr.dv) t)),(3,.d (I (l.foldl (fun n a=>IntKind.i64.wrap (n+g a)) 1)))] []=r)
  (h0:gc [3,7,8,9] 0 ⟨fr,H⟩=⟨[(9,.d (I 0)),(8,.d (I l.length)),(7,.d (.l (K1 4) (l.map AExpr.dv) t)),(3,.d (I 1))],[]⟩) :
  kC T.env 0 fr H (.h (.loop [3,7,8,9] qpD,k))=r:=by
 refine qf1 (fun p:Nat×Int=>⟨[(9,.d (I p.1)),(8,.d (I l.length)),(7,.d (.l (K1 4) (l.map AExpr.dv) t)),(3,.d (I p.2))],[]⟩) (fun i=>(i,(l.take i).foldl (fun n a=>IntKind.i64.wrap (n+g a)) 1)) l.length ?_ ?_ (by rw[h0];rfl)
 ·intro B _;simp only[List.take_length];rw[←he];have h1:¬((l.length:Int)<l.length):=by omega
  simp
 ·intro B _ i hi c hc;have h1:(i:Int)<l.length:=by omega
  have h3:=wr1 (i:=i) (by omega)
  have e:=hg l[i] (zzs hi)
  simp only[zzw hi,List.foldl_append,List.foldl_cons,List.foldl_nil]at hc;simp only;generalize (l.take i).foldl (fun n a=>IntKind.i64.wrap (n+g a)) 1=m at *
  simp[h1,hi,h3,e];exact hc _ _ (by simp)
theorem qyy(T:Tab)(hT:HT T)(x:AExpr)(l:List AExpr)(h2:x.Args.l=l.map AExpr.dv)(h4:l.length*56≤140737488355328)(g:AExpr→Int)(hg:∀a∈l,T.val 405 [a.dv]=some (.d (I (g a)),false)) :
  T.val 405 [x.dv]=some (.d (I (l.foldl (fun n a=>IntKind.i64.wrap (n+g a)) 1)),false):=by
 have lp:=fun k r fr H => @qCS T l x.Args.t g hg h4 k r fr H
 rw[qab T (hT 405 F405 rfl) rfl];obtain⟨o,m,s,a⟩:=x;obtain⟨a,t⟩:=a;simp only at h2 lp;subst h2;simp[F405,Fr.ofArgs];refine lp _ _ _ _ ?_ (by simp)
 simp
theorem qKr(T:Tab)(hT:HT T):∀(n:Nat) (x:AExpr),SizeOf.sizeOf x.dv<n→x.ok→∃v:Int,T.val 405 [x.dv]=some (.d (I v),false):=by
 intro n;induction n with
 |zero=>intro x h;exact absurd h (zzm _)
 |succ n ih =>
  intro x hn hx;obtain⟨l,h2,h3,h4⟩:=qiB hx;obtain⟨g,hg⟩:=qg9 (P:=fun a v=>T.val 405 [a.dv]=some (.d (I v),false)) (fun a ha=>ih a (by have:=qiA h2 ha;omega) (h3 a ha))
  exact⟨_,qyy T hT x l h2 h4 g hg⟩
theorem qCT(T:Tab)(l:List AExpr)(t:Bool)(g:AExpr→Int)(hg:∀a∈l,T.val 406 [a.dv]=some (.d (I (g a)),false))(hn:l.length*56≤140737488355328){k:KC (PV×Bool)}{r:Option (PV×Bool)}{fr:Fr}{H:Heap}
  (he:k (.exit 0) [(10,.d (.b false)),(9,.d (I l.length)),(8,.d (I l.length)),(7,.d (.l (K1 4) (l.map AExpr.dv) t)),(3,.d (I (l.foldl (fun n a=>max n (g a)) 0)))] []=r)
  (h0:gc [3,7,8,9] 0 ⟨fr,H⟩=⟨[(9,.d (I 0)),(8,.d (I l.length)),(7,.d (.l (K1 4) (l.map AExpr.dv) t)),(3,.d (I 0))],[]⟩) :
  kC T.env 0 fr H (.h (.loop [3,7,8,9] qpE,k))=r:=by
 refine qf1 (fun p:Nat×Int=>⟨[(9,.d (I p.1)),(8,.d (I l.length)),(7,.d (.l (K1 4) (l.map AExpr.dv) t)),(3,.d (I p.2))],[]⟩) (fun i=>(i,(l.take i).foldl (fun n a=>max n (g a)) 0)) l.length ?_ ?_ (by rw[h0];rfl)
 ·intro B _;simp only[List.take_length];rw[←he];have h1:¬((l.length:Int)<l.length):=by omega
  simp
 ·intro B _ i hi c hc;have h1:(i:Int)<l.length:=by omega
  have h3:=wr1 (i:=i) (by omega)
  have e:=hg l[i] (zzs hi)
  simp only[zzw hi,List.foldl_append,List.foldl_cons,List.foldl_nil]at hc;simp only;generalize (l.take i).foldl (fun n a=>max n (g a)) 0=m at *
  simp[h1,hi,h3,e];exact hc _ _ (by simp)
theorem qKt(T:Tab)(hT:HT T)(x:AExpr)(l:List AExpr)(h2:x.Args.l=l.map AExpr.dv)(h4:l.length*56≤140737488355328)(g:AExpr→Int)(hg:∀a∈l,T.val 406 [a.dv]=some (.d (I (g a)),false)) :
  T.val 406 [x.dv]=some (.d (I (IntKind.i64.wrap (l.foldl (fun n a=>max n (g a)) 0+1))),false):=by
 have lp:=fun k r fr H => @qCT T l x.Args.t g hg h4 k r fr H
 rw[qab T (hT 406 F406 rfl) rfl];obtain⟨o,m,s,a⟩:=x;obtain⟨a,t⟩:=a;simp only at h2 lp;subst h2;simp[F406,Fr.ofArgs];refine lp _ _ _ _ ?_ (by simp)
 simp
theorem qq5:∀(H J:Heap),qad (H++J)=qad H++qad J
 | [],_=>rfl
 |x::H,J=>by rw[List.cons_append,qad,qad,qq5 H J,zzM]
theorem qyY{H:Heap}(hH:Cl H)(k k':K)(v:DV)(h:Nat):Cl (H++[some (.box k (.d v)),some (.box k' (.f h []))]):=by
 intro r hr;have:r∈qad H:=by simpa[qq5,qad,qai,Obj.refs,PV.refs,PV.refsL]using hr
 have:=hH r this
 simp only[zzp,zzn,List.length_nil];omega
theorem qyX{H:Heap}(hH:Cl H)(k:K)(v:DV):Cl (H++[some (.box k (.d v))]):=by
 intro r hr;have:r∈qad H:=by simpa[qq5,qad,qai,Obj.refs,PV.refs,PV.refsL]using hr
 have:=hH r this
 simp only[zzp,zzn,List.length_nil];omega
theorem qIq(T:Tab)(hT:HT T)(p:AExpr→Bool)(c:PV)(H0:Heap)(hH:Cl H0)(hc:∀r∈PV.refsL [c],r<H0.length)(l:List AExpr)(hv:∀x∈l,T.ref 413 [.d x.dv,c] H0=some (.d (.b (p x)),H0))(s:Bool)(hn:l.length≤maxLen) :
  T.ref 412 [.d (.l (K1 4) (l.map AExpr.dv) s),.f 413 [c]] H0=some (.d (.b (l.any p)),H0):=by
 have e:=qoL T (show T.F 419=some (qig (K1 4))from hT 419 qnc rfl) 413 AExpr.dv p c [] H0 hH hc l hv s hn
 have ea:=qq9 p l
 rw[qeJ T (hT 412 qlt rfl) rfl];simp[qlt,Fr.ofArgs,e,qbQ,qmo hH,ea]
theorem qxy(T:Tab)(hT:HT T)(h:Nat)(x:AExpr)(l:List AExpr)(h2:x.Args.l=l.map AExpr.dv)(h4:l.length*56≤140737488355328)(b:Bool)(hb:T.val h [x.dv]=some (.d (.b b),false))(g:AExpr→Bool)(hg:∀a∈l,∀H0,Cl H0→T.ref 407 [.d a.dv,.f h []] H0=some (.d (.b (g a)),H0))(H0:Heap)(hH:Cl H0) :
  T.ref 407 [.d x.dv,.f h []] H0=some (.d (.b (b && !(l.any fun a => !(g a)))),H0):=by
 have hC:=qyY hH (K1 4) K0 x.dv h
 have hm:=mxl
 have e412:=qIq T hT (fun a => !(g a)) (.p (H0.length+1) 0 0) _ hC (by simp[PV.refs,PV.refsL]) l (fun a ha=>by
  have e:=hg a ha _ (qyX hC (K1 4) a.dv)
  rw[qeJ T (hT 413 qlu rfl) rfl];simp[qlu,Fr.ofArgs,qiL]at e⊢;rw[e];simp[qbQ]
  have:=qhf hC [some (.box (K1 4) (.d a.dv))] (.b (!(g a)))
  simpa[zzM]using this) x.Args.t (by rw[hm];omega)
 obtain⟨o,m,s,a⟩:=x;obtain⟨a,t⟩:=a;simp only at h2;subst h2;rw[qeJ T (hT 407 qjX rfl) rfl];have hg1:=qhf hH [some (.box (K1 4) (.d (AExpr.dv ⟨o,m,s,⟨l.map AExpr.dv,t⟩⟩))),some (.box K0 (.f h []))]
 cases b with
 |false =>
  simp[qjX,Fr.ofArgs,qhd,qiL,qjL,hb,qbQ];exact hg1 _
 |true =>
  simp[qjX,Fr.ofArgs,qhd,qiL,qjL,hb,e412,qbQ];exact hg1 _
def HNm(T:Tab):Prop:=∀s:List UInt8,s.length≤maxLen→∃b:Bool,T.val 415 [.s s]=some (.d (.b b),false)
end
end
theorem qg0{x y:List UInt8}(h:¬x=y):(x==y)=false:=by simpa using h
section
attribute [local simp ↓] qdZ qdX qdP qdY qdM qdQ qdN qdO sqK blK lpK qd4 qd2 qd0 qd3 qd1 qdI qdK qeu qdo qdm qdn qdr qcS qcT qcD qcG qcR qcV qcF qcW qcL qcN qcO qcP qcU qcQ qcE qcH qcj qcI qcM qdk qdh qcY qcX qc6 qcZ qbu qbC qc0 qc1 qd6 qcu qd5 qes qcz qdc qdd qc7 qc9 qc8 qcl qdl qcn qc3 qdg qdb qda qc5 qc4 qdf qdi qc2 qde qdJ qck qcy qdz qcw qbR qdA qco qcp qdj qbV qer qcJ qdp qdq qd8 qet qd7 qdR qdS qdT qdU qdV qdW qcK qdy qew qeP qeQ qeN qeO qeM qev qeT qeR qfn qeS qfs qfJ qcm
attribute [local simp] qbO qd9 qea qdE qdF qds qdt qep qeq qdB qdC rd IOp.adds qaq gh nid rgK rdS qdG qdH qeb qec qeg qeh qek qef qej qei qcC qcA qcB qee qed qdx qdw qem qel qen qeo qeC qeB qeE qeD qeH qeA qeI qfq qfj qfp qfo
section
attribute [local simp ↓] qbJ qbT qbx qeG qbS qfk qbt qbw qce qeV qeW qcq qcr qbv qey qbz qe0 qeZ qe6 qfi qeY qfg qff qbD qe2 qbX qe3 qe5 qe4 qe7 qe1 qe9 qfb qfe qfd qfc qe8 qfa qfh qex qeX
attribute [local simp] qby qbe writeS touchS qaD qa4 chg qbm qbb qaY qbc PV.refs PV.refsL IOp.okD IOp.barr qb2 Nat.testBit
attribute [local simp] gc Fr.keep qaf qae qad PV.refs PV.refsL qaj gcH qai Obj.refs PV.ren PV.renL Obj.ren Heap.obj Fr.ren gh zzd
structure HC (T:Tab):Prop where
 ato:∀ds,T.val 451 ds=ql8 ds
 par:∀ds,T.val 440 ds=qmL ds
 cnt:∀ds,T.val 423 ds=qnL ds
section
variable {R : Type} {E : Env} {ρ : Rand → PV} {H : Heap} {id : Nat} {q : PV → Heap → Option R}
theorem qt3{neg:Bool}{kd:Nat}{x:Rand}:bo2 (qaa E ρ H id (.isnil neg kd x)) (.h q)=bo (qgl kd (ρ x)) (.h fun b=>q (.d (.b (if neg=true then !b else b))) H):=by
 simp only[qaa];cases qgl kd (ρ x)<;>rfl
end
section
variable {R : Type} {E : Env} {base : Nat}
theorem qjF{σ:Type}{live:List Nat}{body:PC}{k:KC R}{Q:R→Prop}(st:σ→St)(inv:σ→Prop)(μ:σ→Nat)
  (hround:∀B,B=body→∀s,inv s→(∀s',inv s'→μ s'<μ s→∀fr H,gc live base ⟨fr,H⟩=st s'→Ans Q (kC E base fr H (.h (.loop live B,k))))→Ans Q (kC E base (st s).fr (st s).H (.h (body,lpK E base live B k))))
  (s:σ) (hs:inv s) {fr:Fr} {H:Heap} (h0:gc live base ⟨fr,H⟩=st s):Ans Q (kC E base fr H (.h (.loop live body,k))):=by
 have key:∀(n:Nat) (s:σ),μ s<n→inv s→∀fr H,gc live base ⟨fr,H⟩=st s→Ans Q (kC E base fr H (.h (.loop live body,k))):=by
  intro n;induction n with
  |zero=>intro s h;exact absurd h (zzm _)
  |succ n ih =>
   intro s hn hv fr H hg;rw[qjz,hg];exact hround body rfl s hv fun s' hv' hm fr' H' hg'=>ih s' (by omega) hv' fr' H' hg'
 exact key (μ s+1) s (Nat.lt_succ_self _) hs fr H h0
end
def qfm(n:Int):Bool:=decide (97≤n)&&decide (n≤122)
def qbZ(n:Int):Bool:=decide (48≤n)&&decide (n≤57)
def qbL(n:Int):Bool:=qfm n||(qbZ n||decide (n=95))
def qjI(n:Int):Bool:=qbL n||(decide (n=46)||decide (n=37))
theorem qyC(T:Tab)(hT:HT T)(n:Int):T.val 429 [.i .i32 n]=some (.d (.b (qfm n)),false):=by
 rw[qab T (hT 429 qj1 rfl) rfl];unfold qfm;by_cases h:97≤n
 ·simp[qj1,Fr.ofArgs,h]
 ·simp[qj1,Fr.ofArgs,h]
theorem qo2(T:Tab)(hT:HT T)(n:Int):T.val 432 [.i .i32 n]=some (.d (.b (qbZ n)),false):=by
 rw[qab T (hT 432 qj2 rfl) rfl];unfold qbZ;by_cases h:48≤n
 ·simp[qj2,Fr.ofArgs,h]
 ·simp[qj2,Fr.ofArgs,h]
theorem qyD(T:Tab)(hT:HT T)(n:Int):T.val 430 [.i .i32 n]=some (.d (.b (qbL n)),false):=by
 have e1:=qyC T hT n
 have e2:=qo2 T hT n
 rw[qab T (hT 430 qh9 rfl) rfl];unfold qbL;generalize qfm n=b1 at *
 generalize qbZ n=b2 at *
 cases b1 with
 |true=>simp[qh9,Fr.ofArgs,e1]
 |false =>
  cases b2 with
  |true=>simp[qh9,Fr.ofArgs,e1,e2]
  |false =>
   by_cases h:n=95
   ·subst h;simp[qh9,Fr.ofArgs,e1,e2]
   ·have g:=qac h
    simp[qh9,Fr.ofArgs,e1,e2,h,g]
theorem qKI(T:Tab)(hT:HT T)(n:Int):T.val 434 [.i .i32 n]=some (.d (.b (qjI n)),false):=by
 have e1:=qyD T hT n
 rw[qab T (hT 434 qia rfl) rfl];unfold qjI;generalize qbL n=b1 at *
 cases b1 with
 |true=>simp[qia,Fr.ofArgs,e1]
 |false =>
  by_cases h:n=46
  ·subst h;simp[qia,Fr.ofArgs,e1]
  ·have g:=qac h
   by_cases h2:n=37
   ·subst h2;simp[qia,Fr.ofArgs,e1]
   ·have g2:=qac h2
    simp[qia,Fr.ofArgs,e1,h,g,h2,g2]
theorem qKE(T:Tab)(hT:HT T)(n:Int):T.val 426 [.i .i32 n]=some (.d (.b (!decide (n=10))),false):=by
 rw[qab T (hT 426 qj0 rfl) rfl];by_cases h:n=10
 ·simp[qj0,Fr.ofArgs,h,bne]
 ·have g:=qac h
  simp[qj0,Fr.ofArgs,h,g,bne]
def cN(c:UInt8):Int:=(c.toNat:Int)
theorem qCV(T:Tab)(h:Nat)(p:Int→Bool)(hp:∀n,T.val h [.i .i32 n]=some (.d (.b (p n)),false))(s:List UInt8)(hs:s.length≤maxLen)(H0:Heap)(hH:Cl H0){k:KC (PV×Heap)}{r:Option (PV×Heap)}{fr:Fr}{H:Heap}
  (he:∀b,k (.exit 0) [(17,.d (.b b)),(5,.d (I (s.takeWhile fun c=>p (cN c)).length)),(1,.f h []),(0,.d (.s s))] H0=r)
  (h0:gc [0,1,5] H0.length ⟨fr,H⟩=⟨[(5,.d (I 0)),(1,.f h []),(0,.d (.s s))],H0⟩) :
  kC T.env H0.length fr H (.h (.loop [0,1,5] qnn,k))=r:=by
 refine qbB (fun i:Nat=>⟨[(5,.d (I i)),(1,.f h []),(0,.d (.s s))],H0⟩) (fun i=>i≤s.length∧(s.takeWhile fun c=>p (cN c)).length=i+((s.drop i).takeWhile fun c=>p (cN c)).length) (fun i=>s.length-i) ?_ 0 ⟨zzK _,by simp⟩ h0
 rintro B-i ⟨hi,ha⟩ hx;have hm:=mxl
 by_cases hlt:i<s.length
 ·have h1:(i:Int)<s.length:=by omega
  have h3:=wr1 (i:=i) (by omega)
  have w32:IntKind.i32.wrap ((s[i].toNat:Nat):Int)=cN s[i]:=by
   rw[IntKind.wrap_i32];have:=s[i].toNat_lt;unfold cN;omega
  have e:=hp (cN s[i])
  rw[zzz hlt,List.takeWhile_cons]at ha;cases hk:p (cN s[i])with
  |true =>
   rw[hk]at e;rw[hk,if_pos rfl,zzn]at ha;have hx':=hx (i+1) ⟨by omega,by omega⟩ (by omega)
   simp[h1,hlt,h3,↓qbf,↓qbA,↓qaZ,↓qbk,w32,e];exact hx' _ _ (by rw[qmp _ hH (by simp[qae,Fr.keep,PV.refs,PV.refsL,gh])];simp[Fr.keep,gh])
  |false =>
   rw[hk]at e;rw[hk]at ha;simp only[zzg,if_false,List.length_nil,Nat.add_zero]at ha;rw[ha]at he;have he':=he false
   simp[h1,hlt,↓qbf,↓qbA,↓qaZ,↓qbk,w32,e];exact he'
 ·have:i=s.length:=by omega
  subst this;rw[zzF (zzt _),List.takeWhile_nil,List.length_nil,Nat.add_zero]at ha;rw[ha]at he;have he':=he false
  have h1:¬((s.length:Int)<s.length):=by omega
  simp;exact he'
theorem qx4{α:Type}(p:α→Bool)(s:List α):s.take (s.takeWhile p).length=s.takeWhile p:=by
 induction s with
 |nil=>rfl
 |cons x r ih =>
  rw[List.takeWhile_cons];by_cases h:p x=true
  ·rw[if_pos h,zzn,List.take_succ_cons,ih]
  ·rw[if_neg h];rfl
theorem qoX{α:Type}(p:α→Bool)(s:List α):(s.takeWhile p).length≤s.length:=by
 have:=congrArg List.length (qx4 p s)
 rw[zzI]at this;omega
theorem qmT(T:Tab)(hT:HT T)(h:Nat)(p:Int→Bool)(hp:∀n,T.val h [.i .i32 n]=some (.d (.b (p n)),false))(s:List UInt8)(hs:s.length≤maxLen)(H0:Heap)(hH:Cl H0) :
  T.ref 425 [.d (.s s),.f h []] H0=some (.d (.s (s.takeWhile fun c=>p (cN c))),H0):=by
 have lp:=fun k r fr H => @qCV T h p hp s hs H0 hH k r fr H
 have hl:=qoX (fun c=>p (cN c)) s
 have ht:=qx4 (fun c=>p (cN c)) s
 generalize s.takeWhile (fun c=>p (cN c))=w at *
 have hl':(w.length:Int)≤s.length:=by omega
 rw[qeJ T (hT 425 F425 rfl) rfl];simp[F425,Fr.ofArgs];refine lp _ _ _ _ (fun b => ?_) (by rw[qmp _ hH (by simp[qae,Fr.keep,PV.refs,PV.refsL,gh])];simp[Fr.keep,gh])
 simp[hl',ht,qbQ,qmo hH]
def ql4(s:List UInt8):Prop:=∃(c:UInt8) (r:List UInt8),s=c::r∧qfm (cN c)=true
theorem qom{s:List UInt8}{i:Nat}(h:ql4 s)(hi:i=0)(hlt:i<s.length):¬((s[i].toNat:Nat):Int)=32∧¬((s[i].toNat:Nat):Int)=9∧¬((s[i].toNat:Nat):Int)=10∧¬((s[i].toNat:Nat):Int)=35:=by
 obtain⟨c,r,rfl,h⟩:=h;subst hi;simp only[qfm,cN,zzf]at h;have h1:(97:Int)≤((c.toNat:Nat):Int)   := of_decide_eq_true h.1
 have h2:((c.toNat:Nat):Int)≤122:=of_decide_eq_true h.2
 show ¬((c.toNat:Nat):Int)=32∧¬((c.toNat:Nat):Int)=9∧¬((c.toNat:Nat):Int)=10∧¬((c.toNat:Nat):Int)=35
 omega
def qpg(s:List UInt8)(r:PV×Bool):Prop:=∃n:Nat,r=(.d (I n),false)∧n≤s.length∧(ql4 s→n=0)
theorem qKB(T:Tab)(hT:HT T)(s:List UInt8)(hs:s.length≤2048):Ans (qpg s) (T.val 422 [.s s]):=by
 have hm:=mxl
 rw[qab T (hT 422 F422 rfl) rfl];simp[F422,Fr.ofArgs];refine qjF (fun i:Nat=>⟨[(3,.d (I i)),(0,.d (.s s))],[]⟩) (fun i=>i≤s.length∧(ql4 s→i=0)) (fun i=>s.length-i) ?_ 0 ⟨zzK _,fun _=>rfl⟩ (by simp)
 rintro B-i ⟨hi,hi0⟩ hx;by_cases hlt:i<s.length
 ·have h1:(i:Int)<s.length:=by omega
  have h1':(i:Int)≤s.length:=by omega
  have hle:i≤s.length:=by omega
  have h3:=wr1 (i:=i) (by omega)
  have e:=qmT T hT 426 (fun n => !decide (n=10)) (fun n=>qKE T hT n) (s.drop i) (by rw[zzJ,hm];omega) [] qpa
  obtain⟨w,hw⟩:∃w,(s.drop i).takeWhile (fun c => !decide (cN c=10))=w:=⟨_,rfl⟩
  have hwl:=qoX (fun c => !decide (cN c=10)) (s.drop i)
  rw[hw,zzJ]at hwl;simp only[hw]at e;have h5:IntKind.i64.wrap ((i:Int)+(w.length:Int))=((i+w.length:Nat):Int):=by rw[wrI (by omega) (by omega)];omega
  by_cases b1:((s[i].toNat:Nat):Int)=32
  ·have hx':=hx (i+1) ⟨by omega,fun h=>absurd b1 (qom h (hi0 h) hlt).1⟩ (by omega)
   simp[h1,hlt,h3,↓qbf,↓qbA,b1];exact hx' _ _ (by simp)
  have g1:=qac b1
  by_cases b2:((s[i].toNat:Nat):Int)=9
  ·have hx':=hx (i+1) ⟨by omega,fun h=>absurd b2 (qom h (hi0 h) hlt).2.1⟩ (by omega)
   simp[h1,hlt,h3,↓qbf,↓qbA,b2];exact hx' _ _ (by simp)
  have g2:=qac b2
  by_cases b3:((s[i].toNat:Nat):Int)=10
  ·have hx':=hx (i+1) ⟨by omega,fun h=>absurd b3 (qom h (hi0 h) hlt).2.2.1⟩ (by omega)
   simp[h1,hlt,h3,↓qbf,↓qbA,b3];exact hx' _ _ (by simp)
  have g3:=qac b3
  by_cases b4:((s[i].toNat:Nat):Int)=35
  ·have hpos:0<w.length:=by
    rw[zzz hlt,List.takeWhile_cons,if_pos (by unfold cN;rw[b4];decide)]at hw
    rw[←hw];simp
   have hx':=hx (i+w.length) ⟨by omega,fun h=>absurd b4 (qom h (hi0 h) hlt).2.2.2⟩ (by omega)
   simp[h1,h1',hlt,↓qbf,↓qbA,b4,e,h5];exact hx' _ _ (by simp)
  have g4:=qac b4
  simp[h1,hlt,↓qbf,↓qbA,g1,g2,g3,g4];exact qbP (show qpg s _ from⟨i,rfl,hi,hi0⟩)
 ·have h1:¬((i:Int)<s.length):=by omega
  simp[h1];exact qbP (show qpg s _ from⟨i,rfl,hi,hi0⟩)
theorem qKC(T:Tab)(hT:HT T)(s:List UInt8)(hs:s.length≤2048):∃n:Nat,n≤s.length∧T.val 422 [.s s]=some (.d (I n),false)∧(ql4 s→n=0):=by
 obtain⟨r,h1,n,h2,h3,h4⟩:=qKB T hT s hs;exact⟨n,h3,by rw[h1,h2],h4⟩
def qjy(s:List UInt8):Bool:=match s with
 | []=>false
 |c::r=>decide ((c::r).takeWhile (fun c=>qbZ (cN c))=c::r)&&(decide (r=[]) || !decide (cN c=48))
theorem qyE(T:Tab)(hT:HT T)(s:List UInt8)(hs:s.length≤2048):T.val 439 [.s s]=some (.d (.b (qjy s)),false):=by
 have hm:=mxl
 have e:=qmT T hT 432 qbZ (fun n=>qo2 T hT n) s (by rw[hm];omega) [] qpa
 rw[qab T (hT 439 qhC rfl) rfl];cases s with
 |nil=>simp[qhC,Fr.ofArgs,qjy]
 |cons c r =>
  have hI:qjy (c::r)=(decide ((c::r).takeWhile (fun c=>qbZ (cN c))=c::r)&&(decide (r=[]) || !decide (cN c=48))):=rfl
  rw[hI];generalize (c::r).takeWhile (fun c=>qbZ (cN c))=w at *
  by_cases h1:w=c::r
  ·subst h1;by_cases h2:r=[]
   ·subst h2;simp[qhC,Fr.ofArgs,e]
   ·have l0:r.length≠0:=fun h=>h2 (List.length_eq_zero_iff.1 h)
    have l1:¬((r.length:Int)+1=1):=by omega
    have g1:=qac l1
    unfold cN;by_cases h3:((c.toNat:Nat):Int)=48
    ·simp[qhC,Fr.ofArgs,e,h2,g1,↓qbf,↓qbA,h3,bne]
    ·have g3:=qac h3
     simp[qhC,Fr.ofArgs,e,h2,g1,↓qbf,↓qbA,h3,g3,bne]
  ·have g1:=qg0 h1
   simp[qhC,Fr.ofArgs,e,h1,g1]
theorem qoY{α:Type}{p:α→Bool}{x:α}:∀{l:List α},x∈l.takeWhile p→p x=true
 | [],h=>by cases h
 |y::l,h=>by
  rw[List.takeWhile_cons]at h;by_cases c:p y=true
  ·rw[if_pos c]at h;rcases List.mem_cons.1 h with h|h
   ·rw[h];exact c
   ·exact qoY h
  ·rw[if_neg c]at h;cases h
theorem qA7{s:List UInt8}(h:qjy s=true):s≠[]∧∀c∈s,qbZ (cN c)=true:=by
 cases s with
 |nil=>cases h
 |cons c r =>
  simp only[qjy,zzf,zzq]at h;refine⟨by simp,fun d hd => ?_⟩
  rw[←h.1]at hd;exact qoY (p:=fun c=>qbZ (cN c)) hd
theorem quG{c:UInt8}(h:qbZ (cN c)=true):48≤c.toNat∧c.toNat≤57:=by
 simp only[qbZ,zzf,zzq]at h;unfold cN at h;omega
theorem quz:∀(l:List UInt8) (a:Nat),(∀c∈l,qbZ (cN c)=true)→∃n,Lib.decFrom a l=some n
 | [],a,_=>⟨a,rfl⟩
 |c::r,a,h=>by
  have hc:=h c (by simp)
  have hc:=quG hc
  have e:Lib.digitVal c=some (c.toNat-48):=by unfold Lib.digitVal;rw[if_pos (by omega)]
  obtain⟨n,hn⟩:=quz r (a*10+(c.toNat-48)) (fun d hd=>h d (by simp[hd]))
  exact⟨n,by rw[Lib.decFrom,e];exact hn⟩
theorem qzf{l:List UInt8}(h0:l≠[])(h:∀c∈l,qbZ (cN c)=true):∃v,Lib.atoi l=some v:=by
 cases l with
 |nil=>exact absurd rfl h0
 |cons c r =>
  have hc:=h c (by simp)
  have hc:=quG hc
  obtain⟨n,hn⟩:=quz (c::r) 0 h;refine⟨(n:Int),?_⟩;have b1:(c==45)=false:=by
   simp only[zzO,ne_eq];intro e;rw[e]at hc;revert hc;decide
  have b2:(c==43)=false:=by
   simp only[zzO,ne_eq];intro e;rw[e]at hc;revert hc;decide
  rw[Lib.atoi,b1,b2];simp only[zzg,if_false,Lib.decNat,List.isEmpty_cons,hn,Option.map_some]
theorem qvJ(c:Nat):∀(l:List UInt8) (k i:Nat),ixB c l k=some i→k≤i∧i<k+l.length
 | [],k,i,h=>by cases h
 |x::r,k,i,h=>by
  rw[ixB]at h;by_cases e:Nat.beq x.toNat c=true
  ·rw[if_pos e]at h;injection h with h
   subst h;simp
  ·rw[if_neg e]at h
   have:=qvJ c r (k+1) i h
   simp only[zzn];omega
def ixI(c:Nat)(s:List UInt8):Int:=match ixB c s 0 with|some i=>(i:Int)|none=>-1
theorem qBb(c:Nat)(s:List UInt8):ixI c s = -1∨∃i:Nat,ixI c s=(i:Int)∧i<s.length:=by
 unfold ixI;cases h:ixB c s 0 with
 |none=>exact .inl rfl
 |some i=>exact .inr ⟨i,rfl,by have:=qvJ c s 0 i h;omega⟩
theorem qKL(T:Tab)(hT:HT T)(s:List UInt8):T.val 443 [.s s,.i .u8 46]=some (.d (I (ixI 46 s)),false):=by
 have e:qgE 2 [.d (.s s),.d (.i .u8 46)]=some (.d (I (ixI 46 s))):=rfl
 rw[qab T (hT 443 qlx rfl) rfl];simp[qlx,Fr.ofArgs,↓ql9,e]
theorem qKJ(T:Tab)(hT:HT T)(s:List UInt8):T.val 436 [.s s,.s [46]]=some (.d (I (ixI 46 s)),false):=by
 have e:=qKL T hT s
 by_cases hs:[46]=s
 ·subst hs;rw[show ixI 46 [46]=0 from rfl,qab T (hT 436 qi3 rfl) rfl]
  simp[qi3,Fr.ofArgs]
 ·have g:=qg0 hs
  rw[qab T (hT 436 qi3 rfl) rfl];simp[qi3,Fr.ofArgs,g,↓qbf,↓qbA,e]
theorem qKR(T:Tab)(hT:HT T)(s:List UInt8)(hs:s.length≤2048):∃a b f,T.val 461 [.s s,.s [46]]=some (.t [.d (.s a),.d (.s b),.d (.b f)],false)∧(f=false→b=[])∧b.length≤2048∧a.length≤2048:=by
 have e:=qKJ T hT s
 rcases qBb 46 s with h|⟨i,h,hi⟩
 ·refine⟨s,[],false,?_,fun _=>rfl,by simp,hs⟩
  rw[h]at e;rw[qab T (hT 461 qi4 rfl) rfl];simp[qi4,Fr.ofArgs,e]
 ·refine⟨s.take i,s.drop (i+1),true,?_,(fun h=>by cases h),by rw[zzJ];omega,by rw[zzI];omega⟩
  rw[h]at e;have w:IntKind.i64.wrap ((i:Int)+1)=((i+1:Nat):Int):=by rw[wrI (by omega) (by omega)];omega
  have g1:(i:Int)≤s.length:=by omega
  have g2:i≤s.length:=by omega
  have g3:((i+1:Nat):Int)≤s.length:=by omega
  have g4:i+1≤s.length:=by omega
  rw[qab T (hT 461 qi4 rfl) rfl];obtain⟨j,hj⟩:∃j,i+1=j:=⟨_,rfl⟩;rw[hj]at w g3 g4⊢;have g5:(0:Int)≤(j:Int):=by omega
  simp[qi4,Fr.ofArgs,e,↓qbJ,↓qbT,↓qbx,↓qbt,qby,↓qbw,↓qbz,↓qfg,↓qe7,qbe,writeS,touchS,qaD,qa4,chg,qbb,qaY,qbc,PV.refs,IOp.okD,Nat.testBit,w,g1,g3,g5,↓qck,↓qcy]
theorem qKP(T:Tab)(hT:HT T)(s:List UInt8)(hs:s.length≤2048):∃a b f,T.val 450 [.s s,.s [46]]=some (.t [.d (.s a),.d (.s b),.d (.b f)],false)∧(f=false→b=[])∧b.length≤2048∧a.length≤2048:=by
 obtain⟨a,b,f,e,h⟩:=qKR T hT s hs;refine⟨a,b,f,?_,h⟩;rw[qab T (hT 450 qlz rfl) rfl];simp[qlz,Fr.ofArgs,e]
theorem qKS(T:Tab)(hT:HT T)(s:List UInt8)(hs:s.length≤2048):∃b:Bool,T.val 468 [.s s,.s [37]]=some (.d (.b b),false)∧(b=true→1≤s.length):=by
 rw[qab T (hT 468 qj4 rfl) rfl];by_cases h:1≤s.length
 ·have w:IntKind.i64.wrap ((s.length:Int)-1)=((s.length-1:Nat):Int):=by rw[wrI (by omega) (by omega)];omega
  obtain⟨j,hj⟩:∃j,s.length-1=j:=⟨_,rfl⟩;rw[hj]at w;have g1:(j:Int)≤s.length:=by omega
  have g2:j≤s.length:=by omega
  have g3:(1:Int)≤s.length:=by omega
  refine⟨(s.drop j==[37]),?_,fun _=>h⟩
  simp[qj4,Fr.ofArgs,g3,w,g1]
 ·have g3:¬((1:Int)≤s.length):=by omega
  refine⟨false,?_,(fun h=>by cases h)⟩
  simp[qj4,Fr.ofArgs,g3]
theorem qKQ(T:Tab)(hT:HT T)(s:List UInt8)(hs:s.length≤2048):∃a b,T.val 460 [.s s,.s [37]]=some (.t [.d (.s a),.d (.b b)],false)∧a.length≤2048:=by
 obtain⟨b,e,hb⟩:=qKS T hT s hs;rw[qab T (hT 460 qj3 rfl) rfl];cases b with
 |false =>
  refine⟨s,false,?_,hs⟩;simp[qj3,Fr.ofArgs,e]
 |true =>
  have h:=hb rfl
  have w:IntKind.i64.wrap ((s.length:Int)-1)=((s.length-1:Nat):Int):=by rw[wrI (by omega) (by omega)];omega
  obtain⟨j,hj⟩:∃j,s.length-1=j:=⟨_,rfl⟩;rw[hj]at w;have g1:(j:Int)≤s.length:=by omega
  have g2:j≤s.length:=by omega
  refine⟨s.take j,true,?_,by rw[zzI];omega⟩
  simp[qj3,Fr.ofArgs,e,w,g1]
theorem qKN(T:Tab)(hT:HT T)(s:List UInt8)(hs:s.length≤2048):∃a b,T.val 449 [.s s,.s [37]]=some (.t [.d (.s a),.d (.b b)],false)∧a.length≤2048:=by
 obtain⟨a,b,e,h⟩:=qKQ T hT s hs;refine⟨a,b,?_,h⟩;rw[qab T (hT 449 qly rfl) rfl];simp[qly,Fr.ofArgs,e]
def qgm(p:List UInt8):List UInt8:=p++List.replicate (4-p.length) 48
theorem qwk(T:Tab)(w p:List UInt8)(hp:p.length≤4){k:KC (PV×Bool)}{r:Option (PV×Bool)}{fr:Fr}{H:Heap}
  (he:k (.exit 0) [(60,.d (.b false)),(7,.d (.s (qgm p))),(6,.d (.s w))] []=r)
  (h0:gc [6,7] 0 ⟨fr,H⟩=⟨[(7,.d (.s p)),(6,.d (.s w))],[]⟩) :
  kC T.env 0 fr H (.h (.loop [6,7] qpG,k))=r:=by
 refine qbB (fun q:List UInt8=>⟨[(7,.d (.s q)),(6,.d (.s w))],[]⟩) (fun q=>q.length≤4∧qgm q=qgm p) (fun q=>4-q.length) ?_ p ⟨hp,rfl⟩ h0
 rintro B-q ⟨hq,ha⟩ hx;by_cases hlt:q.length<4
 ·have h1:(q.length:Int)<4:=by omega
  have hx':=hx (q++[48]) ⟨by simp;omega,by
   rw[←ha];unfold qgm;rw[zzM,zzp,zzn,List.length_nil,show 4-q.length=4-(q.length+(0+1))+1 by omega,List.replicate_succ]
   rfl⟩ (by simp;omega)
  have h2:q.length+1<4611686018427387904:=by omega
  simp[h1,h2];exact hx' _ _ (by simp)
 ·have h1:¬((q.length:Int)<4):=by omega
  have e:qgm p=q:=by
   rw[←ha];unfold qgm
   rw[show 4-q.length=0 by omega];simp
  rw[e]at he;simp[h1];exact he
theorem qH1{p:List UInt8}(h:∀c∈p,qbZ (cN c)=true):∀c∈qgm p,qbZ (cN c)=true:=by
 intro c hc;rcases zzB.1 hc with hc|hc
 ·exact h c hc
 ·rw[(List.mem_replicate.1 hc).2];decide
theorem qsH{p:List UInt8}(h:p.length≤4):(qgm p).length=4:=by
 unfold qgm;rw[zzp,List.length_replicate];omega
theorem qKK(T:Tab)(hT:HT T)(hC:HC T)(s:List UInt8)(hs:s.length≤2048):∃p:Int×Int,T.val 441 [.s s]=some (two p):=by
 obtain⟨t,ok,e449,ht⟩:=qKN T hT s hs;obtain⟨a,b,f,e450,hf,hb,ha⟩:=qKP T hT t ht;have e439:=qyE T hT a ha
 have hm:=mxl
 have e425:=qmT T hT 432 qbZ (fun n=>qo2 T hT n) b (by rw[hm];omega) [] qpa
 rw[qab T (hT 441 F441 rfl) rfl];unfold two;cases ok with
 |false =>
  refine⟨(0,2),?_⟩;simp[F441,Fr.ofArgs,e449,e450]
 |true =>
  cases hi:qjy a with
  |false =>
   rw[hi]at e439;refine⟨(0,2),?_⟩;simp[F441,Fr.ofArgs,e449,e450,e439]
  |true =>
   rw[hi]at e439;obtain⟨a0,ad⟩:=qA7 hi;have tail:∀(p:List UInt8),p.length≤4→(∀c∈p,qbZ (cN c)=true)→¬(3<a.length)→∃v:Int,T.val 451 [.s (a++qgm p)]=some (.t [.d (I v),.d .ni],false):=by
    intro p hp hd h3;obtain⟨v,hv⟩:=qzf (l:=a++qgm p) (by simp[a0]) (fun c hc=>by
     rcases zzB.1 hc with hc|hc
     ·exact ad c hc
     ·exact qH1 hd c hc)
    refine⟨v,?_⟩;rw[hC.ato];simp only[ql8];rw[if_pos (by rw[zzp,qsH hp];omega),hv]
   cases f with
   |false =>
    have hbn:=hf rfl
    subst hbn;by_cases h3:3<a.length
    ·have g3:(3:Int)<a.length:=by omega
     refine⟨(0,1),?_⟩;simp[F441,Fr.ofArgs,e449,e450,e439,g3]
    ·have g3:¬((3:Int)<a.length):=by omega
     obtain⟨v,ev⟩:=tail [] (by simp) (by simp) h3
     have lp:=fun k r fr H => @qwk T a [] (by simp) k r fr H
     have pl:=qsH (p:=[]) (by simp)
     generalize qgm []=q at *
     have hlen:a.length+4<4611686018427387904:=by omega
     by_cases hv:1000000<v
     ·refine⟨(0,1),?_⟩;simp[F441,Fr.ofArgs,e449,e450,e439,g3];refine lp _ _ _ _ ?_ (by simp)
      simp[pl,hlen,ev,hv]
     ·refine⟨(v,0),?_⟩;simp[F441,Fr.ofArgs,e449,e450,e439,g3];refine lp _ _ _ _ ?_ (by simp)
      simp[pl,hlen,ev,hv]
   |true =>
    by_cases b0:b=[]
    ·refine⟨(0,2),?_⟩;simp[F441,Fr.ofArgs,e449,e450,e439,b0]
    have gb0:=qg0 b0
    by_cases b4:4<b.length
    ·have g4:(4:Int)<b.length:=by omega
     refine⟨(0,2),?_⟩;simp[F441,Fr.ofArgs,e449,e450,e439,gb0,g4]
    have g4:¬((4:Int)<b.length):=by omega
    by_cases bd:b.takeWhile (fun c=>qbZ (cN c))=b
    ·rw[bd]at e425;have hbd:∀c∈b,qbZ (cN c)=true:=fun c hc=>by
      rw[←bd]at hc;exact qoY (p:=fun c=>qbZ (cN c)) hc
     have l0:b.length≠0:=fun h=>b0 (List.length_eq_zero_iff.1 h)
     have w:IntKind.i64.wrap ((b.length:Int)-1)=((b.length-1:Nat):Int):=by rw[wrI (by omega) (by omega)];omega
     obtain⟨j,hj⟩:∃j,b.length-1=j:=⟨_,rfl⟩;rw[hj]at w;have hjl:j<b.length:=by omega
     obtain⟨c,hc⟩:∃c,b[j]? = some c:=⟨_,zze hjl⟩;by_cases bc:((c.toNat:Nat):Int)=48
     ·refine⟨(0,2),?_⟩;simp[F441,Fr.ofArgs,e449,e450,e439,gb0,g4,e425,w,hc,↓qbf,↓qbA,bc]
     ·have gbc:=qac bc
      by_cases h3:3<a.length
      ·have g3:(3:Int)<a.length:=by omega
       refine⟨(0,1),?_⟩;simp[F441,Fr.ofArgs,e449,e450,e439,gb0,g4,e425,w,hc,↓qbf,↓qbA,gbc,g3]
      ·have g3:¬((3:Int)<a.length):=by omega
       obtain⟨v,ev⟩:=tail b (by omega) hbd h3
       have lp:=fun k r fr H => @qwk T a b (by omega) k r fr H
       have pl:=qsH (p:=b) (by omega)
       generalize qgm b=q at *
       have hlen:a.length+4<4611686018427387904:=by omega
       by_cases hv:1000000<v
       ·refine⟨(0,1),?_⟩;simp[F441,Fr.ofArgs,e449,e450,e439,gb0,g4,e425,w,hc,↓qbf,↓qbA,gbc,g3];refine lp _ _ _ _ ?_ (by simp)
        simp[pl,hlen,ev,hv]
       ·refine⟨(v,0),?_⟩;simp[F441,Fr.ofArgs,e449,e450,e439,gb0,g4,e425,w,hc,↓qbf,↓qbA,gbc,g3];refine lp _ _ _ _ ?_ (by simp)
        simp[pl,hlen,ev,hv]
    ·have gbd:=qg0 bd
     generalize b.takeWhile (fun c=>qbZ (cN c))=w at *
     refine⟨(0,2),?_⟩;simp[F441,Fr.ofArgs,e449,e450,e439,gb0,g4,e425,gbd]
structure ATok where
 (Kind Line:Int)
 Text:List UInt8
def ATok.cells(x:ATok):List DV:=[I x.Kind,I x.Line,.s x.Text]
def ATok.dv(x:ATok):DV:=.a [I x.Kind,I x.Line,.s x.Text]
@[simp] theorem ATok.fits(x:ATok):Sim.fits (K1 3) (.d (ATok.dv x))=true:=rfl
@[simp] theorem ATok.purT(x:ATok)(H:Heap):Sim.purT H (.d (ATok.dv x))=some (.d (ATok.dv x),false):=rfl
@[simp] theorem ATok.clen(x:ATok):(ATok.dv x).cells.length=3:=rfl
@[simp] theorem ATok.aof(x:ATok):DV.a (ATok.cells x)=ATok.dv x:=rfl
@[simp] theorem ATok.ccl(x:ATok):(ATok.cells x).length=3:=rfl
@[simp] theorem ATok.c0(x:ATok):(ATok.dv x).cells[0]? = some (I x.Kind):=rfl
@[simp] theorem ATok.c1(x:ATok):(ATok.dv x).cells[1]? = some (I x.Line):=rfl
@[simp] theorem ATok.c2(x:ATok):(ATok.dv x).cells[2]? = some (.s x.Text):=rfl
def qh4(k:Int)(s:List UInt8)(e:Int):PV×Bool:=(.t [.d (.a [I k,I 0,.s s]),.d (I e)],false)
theorem qH2(T:Tab)(hC:HC T)(s:List UInt8)(hs:s.length≤2048):(∃v:Int,T.val 440 [.s s,I 10,I 64]=some (.t [.d (I v),.d .ni],false))∨(∃v:Int,T.val 440 [.s s,I 10,I 64]=some (.t [.d (I v),.d (.tok 0)],false)):=by
 rw[hC.par];simp only[qmL];rw[if_pos (by refine⟨?_,?_,?_⟩<;>first|trivial|omega)]
 cases Lib.parseIntB 64 s with
 |ok v=>exact .inl ⟨v,rfl⟩
 |range=>exact .inr ⟨_,rfl⟩
 | _ => exact .inr ⟨_,rfl⟩
theorem qKH(T:Tab)(hT:HT T)(hC:HC T)(s:List UInt8)(hs:s.length≤2048):∃k t e,T.val 433 [.s s]=some (qh4 k t e)∧(e=0→t=s)∧k≠1:=by
 have e439:=qyE T hT s hs
 obtain⟨p,e441⟩:=qKK T hT hC s hs;unfold two at e441;cases hi:qjy s with
 |true =>
  rw[hi]at e439;rcases qH2 T hC s hs with ⟨v,e⟩|⟨v,e⟩
  ·refine⟨2,s,0,?_,fun _=>rfl,by decide⟩
   rw[qab T (hT 433 qga rfl) rfl];simp[qga,Fr.ofArgs,e439,e,↓qt3,qgl,↓qaA,↓qaC,↓qaB,putAt,mkA,qal,qax,qay,qgt,qh4]
  ·refine⟨0,[],6,?_,(fun h=>by cases h),by decide⟩
   rw[qab T (hT 433 qga rfl) rfl];simp[qga,Fr.ofArgs,e439,e,↓qt3,qgl,↓qaA,↓qaC,mkA,qal,qh4]
 |false =>
  rw[hi]at e439;by_cases h0:p.2=0
  ·refine⟨3,s,0,?_,fun _=>rfl,by decide⟩
   rw[qab T (hT 433 qga rfl) rfl];simp[qga,Fr.ofArgs,e439,e441,h0,↓qaA,↓qaC,↓qaB,putAt,mkA,qal,qax,qay,qgt,qh4]
  ·have g0:=qac h0
   by_cases h1:p.2=1
   ·refine⟨0,[],6,?_,(fun h=>by cases h),by decide⟩
    rw[qab T (hT 433 qga rfl) rfl];simp[qga,Fr.ofArgs,e439,e441,h1,↓qaA,↓qaC,mkA,qal,qh4]
   ·have g1:=qac h1
    refine⟨0,[],2,?_,(fun h=>by cases h),by decide⟩
    rw[qab T (hT 433 qga rfl) rfl];simp[qga,Fr.ofArgs,e439,e441,g0,g1,↓qaA,↓qaC,mkA,qal,qh4]
def wordsL:List (List UInt8):=[[112,114,111,100,117,99,116],[99,117,114,114,101,110,99,121],[99,97,108,101,110,100,97,114],[102,114,111,109],[101,118,101,114,121],[111,118,101,114,100,114,97,102,116],[116,97,120],[99,114,101,100,105,116],[100,101,98,105,116],[109,97,114,103,105,110,97,108],[119,104,111,108,101],[97,99,116,51,54,48],[97,99,116,51,54,53],[97,99,116,117,97,108],[116,104,105,114,116,121],[100,111,119,110],[117,112],[102,108,111,111,114],[99,101,105,108],[104,97,108,102,95,117,112],[104,97,108,102,95,101,118,101,110],[107,101,101,112],[100,114,111,112],[102,101,101],[108,105,109,105,116],[119,104,101,110],[97,109,111,117,110,116,95,111,102],[115,105,110,103,108,101],[100,97,105,108,121],[109,111,110,116,104,108,121],[109,111,110,116,104],[114,101,116,117,114,110],[99,108,111,115,101],[101,118,101,110,116],[105,102],[116,104,101,110],[101,108,115,101],[97,110,100],[111,114],[110,111,116],[109,105,110],[109,97,120]]
structure HWd (T:Tab):Prop where
 words:∃(t o:Bool),T.val 438 []=some (.d (.l K0 (wordsL.map DV.s) t),o)
 marks:∃(ms:List (List UInt8)) (t o:Bool),T.val 435 []=some (.d (.l K0 (ms.map DV.s) t),o)∧ms.length≤1000∧∀m∈ms,m≠[]
def qph(ws:List (List UInt8))(s:List UInt8)(r:PV×Bool):Prop:=∃n:Int,r=(.d (I n),false)∧(0≤n↔s∈ws)
theorem qKM(T:Tab)(hT:HT T)(ws:List (List UInt8))(t:Bool)(s:List UInt8)(hn:ws.length≤1000):Ans (qph ws s) (T.val 446 [.l K0 (ws.map DV.s) t,.s s]):=by
 rw[qab T (hT 446 F446 rfl) rfl];simp[F446,Fr.ofArgs];refine qjF (fun i:Nat=>⟨[(8,.d (I i)),(7,.d (I ws.length)),(1,.d (.s s)),(0,.d (.l K0 (ws.map DV.s) t))],[]⟩) (fun i=>i≤ws.length∧¬s∈ws.take i) (fun i=>ws.length-i) ?_ 0 ⟨zzK _,by simp⟩ (by simp)
 rintro B-i ⟨hi,hni⟩ hx;by_cases hlt:i<ws.length
 ·have h1:(i:Int)<ws.length:=by omega
  have h3:=wr1 (i:=i) (by omega)
  by_cases hs:s=ws[i]
  ·have hm:s∈ws:=by rw[hs];exact zzs hlt
   simp[h1,hlt,←hs];exact qbP (show qph ws s _ from⟨_,rfl,⟨fun _=>hm,fun _=>by omega⟩⟩)
  ·have g:=qg0 hs
   have hx':=hx (i+1) ⟨by omega,by
    rw[zzw hlt,zzB,zzH];exact fun h=>h.elim hni hs⟩ (by omega)
   simp[h1,hlt,h3,g];exact hx' _ _ (by simp)
 ·have:i=ws.length:=by omega
  subst this;rw[List.take_length]at hni;have h1:¬((ws.length:Int)<ws.length):=by omega
  simp;exact qbP (show qph ws s _ from⟨_,rfl,⟨fun h=>absurd h (by decide),fun h=>absurd h hni⟩⟩)
theorem qKG(T:Tab)(hT:HT T)(hW:HWd T)(s:List UInt8):T.val 431 [.s s]=some (.d (.b (decide (s∈wordsL))),false):=by
 obtain⟨t,o,e438⟩:=hW.words;obtain⟨r,e446,n,rfl,hn⟩:=qKM T hT wordsL t s (by decide)
 have e437:T.val 437 [.l K0 (wordsL.map DV.s) t,.s s]=some (.d (.b (decide (s∈wordsL))),false):=by
  have q:decide (s∈wordsL)=decide (0≤n):=by rw[decide_eq_decide];exact hn.symm
  rw[q,qab T (hT 437 qlw rfl) rfl];simp[qlw,Fr.ofArgs,e446]
 generalize wordsL.map DV.s=w at *
 generalize decide (s∈wordsL)=b at *
 rw[qab T (hT 431 qlv rfl) rfl];simp[qlv,Fr.ofArgs,e438,e437]
theorem qKl(T:Tab)(hT:HT T)(s m:List UInt8):∃b:Bool,T.val 291 [.s s,.s m]=some (.d (.b b),false)∧(b=true→m.length≤s.length):=by
 rw[qab T (hT 291 qjW rfl) rfl];by_cases h:m.length≤s.length
 ·have g:(m.length:Int)≤s.length:=by omega
  refine⟨(s.take m.length==m),?_,fun _=>h⟩
  simp[qjW,Fr.ofArgs,g]
 ·have g:¬((m.length:Int)≤s.length):=by omega
  refine⟨false,?_,(fun h=>by cases h)⟩
  simp[qjW,Fr.ofArgs,g]
theorem qKj(T:Tab)(hT:HT T)(s m:List UInt8):∃b:Bool,T.val 207 [.s s,.s m]=some (.d (.b b),false)∧(b=true→m.length≤s.length):=by
 obtain⟨b,e,h⟩:=qKl T hT s m;refine⟨b,?_,h⟩;rw[qab T (hT 207 qln rfl) rfl];simp[qln,Fr.ofArgs,e]
def qb9:List UInt8→Bool
 | []=>false
 |c::r=>qfm (cN c)&&(decide ((c::r).takeWhile (fun c=>qbL (cN c))=c::r)&&(!decide (c::r∈wordsL)&&decide ((c::r).length≤16)))
def qi8(s:List UInt8)(r:PV×Bool):Prop:=∃k t e,r=qh4 k t e∧(e=0→t≠[]∧t.length≤s.length)∧(qb9 s=true→k=1∧t=s∧e=0)∧(e=0→k=1→t=s→qb9 s=true)
theorem qyW(k:K)(v:DV):Cl [some (.box k (.d v))]:=fun r h=>by simp[qad,qai,Obj.refs,PV.refs]at h
theorem qKD(T:Tab)(hT:HT T)(hC:HC T)(hW:HWd T)(s:List UInt8)(h0:s≠[])(hs:s.length≤2048):Ans (qi8 s) (T.val 424 [.s s]):=by
 have hm:=mxl
 obtain⟨c,r,rfl⟩:∃c r,s=c::r:=by
  cases s with
  |nil=>exact absurd rfl h0
  |cons c r=>exact⟨c,r,rfl⟩
 have w32:IntKind.i32.wrap ((c.toNat:Nat):Int)=cN c:=by
  rw[IntKind.wrap_i32];have:=c.toNat_lt;unfold cN;omega
 have e429:=qyC T hT (cN c)
 have e432:=qo2 T hT (cN c)
 have z:Cl [some (.box (K1 3) (.d (.a [I 0,I 0,.s []])))]:=qyW _ _
 cases hl:qfm (cN c)with
 |true =>
  rw[hl]at e429;have e425:=qmT T hT 430 qbL (fun n=>qyD T hT n) (c::r) (by rw[hm];omega) _ z
  have hne:(c::r).takeWhile (fun c=>qbL (cN c))≠[]:=by
   rw[List.takeWhile_cons,if_pos (by unfold qbL;rw[hl];rfl)];simp
  have hle:=qoX (fun c=>qbL (cN c)) (c::r)
  have hN:qb9 (c::r)=(decide ((c::r).takeWhile (fun c=>qbL (cN c))=c::r)&&(!decide (c::r∈wordsL)&&decide ((c::r).length≤16))):=by
   show (qfm (cN c)&&_)=_
   rw[hl,Bool.true_and]
  generalize (c::r).takeWhile (fun c=>qbL (cN c))=w at *
  have e431:=qKG T hT hW w
  cases hb:decide (w∈wordsL)with
  |true =>
   rw[hb]at e431;rw[qab T (hT 424 F424 rfl) rfl];simp[F424,Fr.ofArgs,↓qbf,↓qbA,↓qaZ,↓qbk,w32,e429,e425,e431,↓qaA,↓qaC,↓qaB,putAt,mkA,qal,qax,qay,qgt];exact qbP (show qi8 _ _ from⟨5,w,0,rfl,fun _=>⟨hne,hle⟩,(fun h=>by
    exfalso
    rw[hN]at h;simp only[zzf,zzq,Bool.not_eq_true',zzE]at h hb;exact h.2.1 (h.1▸hb)),fun _ h=>absurd h (by decide)⟩)
  |false =>
   rw[hb]at e431;by_cases hw:16<w.length
   ·have g:(16:Int)<w.length:=by omega
    rw[qab T (hT 424 F424 rfl) rfl];simp[F424,Fr.ofArgs,↓qbf,↓qbA,↓qaZ,↓qbk,w32,e429,e425,e431,g,↓qaA,↓qaC,mkA,qal];exact qbP (show qi8 _ _ from⟨0,[],4,rfl,(fun h=>by cases h),(fun h=>by
     exfalso
     rw[hN]at h;simp only[zzf,zzq,Bool.not_eq_true',zzE]at h;rw[h.1]at hw;omega),fun h=>by cases h⟩)
   ·have g:¬((16:Int)<w.length):=by omega
    rw[qab T (hT 424 F424 rfl) rfl];simp[F424,Fr.ofArgs,↓qbf,↓qbA,↓qaZ,↓qbk,w32,e429,e425,e431,g,↓qaA,↓qaC,↓qaB,putAt,mkA,qal,qax,qay,qgt];exact qbP (show qi8 _ _ from⟨1,w,0,rfl,fun _=>⟨hne,hle⟩,(fun h=>by
     rw[hN]at h;simp only[zzf,zzq,Bool.not_eq_true',zzE]at h;exact⟨rfl,h.1,rfl⟩),fun _ _ h=>by
     rw[hN];simp only[zzf,zzq,Bool.not_eq_true',zzE]at hb⊢;refine⟨h,h▸hb,?_⟩;rw[←h];omega⟩)
 |false =>
  have hN:qb9 (c::r)=false:=by
   show (qfm (cN c)&&_)=_
   rw[hl,Bool.false_and]
  have hN1:∀{p:Prop},qb9 (c::r)=true→p:=fun h=>by rw[hN]at h;cases h
  rw[hl]at e429;cases hd:qbZ (cN c)with
  |true =>
   rw[hd]at e432;have e425:=qmT T hT 434 qjI (fun n=>qKI T hT n) (c::r) (by rw[hm];omega) _ z
   have hne:(c::r).takeWhile (fun c=>qjI (cN c))≠[]:=by
    rw[List.takeWhile_cons,if_pos (by unfold qjI qbL;rw[hl,hd];rfl)];simp
   have hle:=qoX (fun c=>qjI (cN c)) (c::r)
   generalize (c::r).takeWhile (fun c=>qjI (cN c))=w at *
   obtain⟨k,t,e,e433,ht,hk1⟩:=qKH T hT hC w (by omega)
   unfold qh4 at e433;rw[qab T (hT 424 F424 rfl) rfl];simp[F424,Fr.ofArgs,↓qbf,↓qbA,↓qaZ,↓qbk,w32,e429,e432,e425,e433];exact qbP (show qi8 _ _ from⟨k,t,e,rfl,(fun h=>by rw[ht h];exact⟨hne,hle⟩),hN1,fun _ h=>absurd h hk1⟩)
  |false =>
   rw[hd]at e432;obtain⟨ms,t,o,e435,hn,hms⟩:=hW.marks;rw[qab T (hT 424 F424 rfl) rfl];simp[F424,Fr.ofArgs,↓qbf,↓qbA,↓qaZ,↓qbk,w32,e429,e432,e435];refine qjF (fun i:Nat=>⟨[(36,.d (I i)),(35,.d (I ms.length)),(34,.d (.l K0 (ms.map DV.s) t)),(2,.p 0 0 0),(0,.d (.s (c::r)))],[some (.box (K1 3) (.d (.a [I 0,I 0,.s []])))]⟩) (fun i=>i≤ms.length) (fun i=>ms.length-i) ?_ 0 (zzK _) (by simp)
   rintro B-i hi hx;by_cases hlt:i<ms.length
   ·have h1:(i:Int)<ms.length:=by omega
    have h3:=wr1 (i:=i) (by omega)
    obtain⟨b,e207,hb⟩:=qKj T hT (c::r) ms[i];cases b with
    |true =>
     simp[h1,hlt,e207,↓qaA,↓qaC,↓qaB,putAt,mkA,qal,qax,qay,qgt];exact qbP (show qi8 _ _ from⟨4,ms[i],0,rfl,(fun _=>⟨hms _ (zzs hlt),hb rfl⟩),hN1,fun _ h=>absurd h (by decide)⟩)
    |false =>
     have hx':=hx (i+1) (by omega) (by omega)
     simp[h1,hlt,h3,e207];exact hx' _ _ (by simp)
   ·have:i=ms.length:=by omega
    subst this;have h1:¬((ms.length:Int)<ms.length):=by omega
    simp[↓qaA,↓qaC,mkA,qal];exact qbP (show qi8 _ _ from⟨0,[],2,rfl,(fun h=>by cases h),hN1,fun h=>by cases h⟩)
theorem qwz{R:Type}{a b c:DV}{q:PV→Option R}:bo (mkP (K1 3) [.d a,.d b,.d c]) (.h q)=q (.d (.a [a,b,c])):=rfl
def qkc(s:List UInt8)(r:PV×Bool):Prop:=∃(l:List ATok) (t:Bool) (line e:Int),r=(.t [.d (.l (K1 3) (l.map ATok.dv) t),.d (I line),.d (I e)],false)∧(qb9 s=true→e=0∧∃a,l=[a]∧a.Kind=1∧a.Text=s)∧(e=0→∀a,l=[a]→a.Kind=1→a.Text=s→qb9 s=true)
theorem qsy{s:List UInt8}(h:qb9 s=true):s.length≤16∧s≠[]∧ql4 s:=by
 cases s with
 |nil=>cases h
 |cons c r =>
  simp only[qb9,zzf,zzq]at h;exact⟨h.2.2.2,by simp,c,r,rfl,h.1⟩
theorem qKA(T:Tab)(hT:HT T)(hC:HC T)(hW:HWd T)(s:List UInt8)(hs:s.length≤maxLen):Ans (qkc s) (T.val 420 [.s s]):=by
 have hm:=mxl
 rw[qab T (hT 420 F420 rfl) rfl];by_cases hg:2048<s.length
 ·have g:(2048:Int)<s.length:=by omega
  simp[F420,Fr.ofArgs,g];exact qbP (show qkc s _ from⟨[],true,0,5,rfl,(fun h=>by have:=(qsy h).1;omega),fun h=>by cases h⟩)
 have g:¬((2048:Int)<s.length):=by omega
 simp[F420,Fr.ofArgs,g];refine qjF (fun q:List UInt8×List ATok×Int=>⟨[(6,.d (I q.2.2)),(5,qao (K1 3) (q.2.1.map ATok.dv)),(0,.d (.s q.1))],qaR (K1 3) (q.2.1.map ATok.dv)⟩) (fun q=>q.1.length+q.2.1.length≤2048∧((q.2.1=[]∧q.1=s)∨∃a r,q.2.1=a::r∧(a.Kind=1→a.Text=s→qb9 s=true)∧(qb9 s=true→r=[]∧a.Kind=1∧a.Text=s∧q.1=[]))) (fun q=>q.1.length) ?_ (s,[],1) ⟨by simp;omega,.inl ⟨rfl,rfl⟩⟩ (by simp[qao,qaR])
 rintro B-⟨u,l,line⟩ ⟨hi,hJ⟩ hx;simp only at hi hJ hx⊢;have hx':=fun (s':List UInt8×List ATok×Int)=>hx s'
 clear hx
 obtain⟨n,hn,e422,hn0⟩:=qKC T hT u (by omega)
 have e423:T.val 423 [.s (u.take n),.s [10]]=some (.d (.i .i64 (qjm (u.take n) 10)),false):=by rw[hC.cnt];rfl
 have g1:(n:Int)≤u.length:=by omega
 generalize qjm (u.take n) 10=cnt at *
 obtain⟨v,hv⟩:∃v,u.drop n=v:=⟨_,rfl⟩;have hvl:v.length≤u.length:=by rw[←hv,zzJ];omega
 by_cases h0:v=[]
 ·subst h0;cases l with
  |nil =>
   have hu:u=s:=hJ.elim (fun h=>h.2) fun ⟨a,r,h,_⟩=>by cases h
   simp[e422,e423,g1,hv,qao,qaR];exact qbP (show qkc s _ from⟨[],_,_,_,rfl,(fun h=>by
    have:=qsy h
    rw[hn0 (hu▸this.2.2),hu]at hv;exact absurd hv this.2.1),fun _ a h=>by cases h⟩)
  |cons a l =>
   have ht:(l.map ATok.dv).take l.length=l.map ATok.dv:=zzv (by simp)
   simp[e422,e423,g1,hv,qao,qaR,ht,qaK,pur,qa9,PV.scal,PV.scal1,DV.scal,DV.scal1];obtain⟨q1,q2⟩:(a.Kind=1→a.Text=s→qb9 s=true)∧(qb9 s=true→l=[]∧a.Kind=1∧a.Text=s∧u=[]):=hJ.elim (fun h=>by cases h.1) fun ⟨a',r',h,h1,h2⟩=>by cases h;exact⟨h1,h2⟩
   exact qbP (show qkc s _ from⟨a::l,_,_,_,rfl,(fun h=>by
    obtain⟨r1,r2,r3,-⟩:=q2 h;exact⟨rfl,a,by rw[r1],r2,r3⟩),fun _ b h=>by cases h;exact q1⟩)
 have gv:=qg0 h0
 obtain⟨rr,e424,k,t,e,hrr,hte,hnm1,hnm2⟩:=qKD T hT hC hW v h0 (by omega)
 have hus:l=[]→u=s:=fun hl=>hJ.elim (fun h=>h.2) fun ⟨a,r,h,_⟩=>by rw[hl]at h;cases h
 have hvs:l=[]→qb9 s=true→v=s:=fun hl h=>by
  have:=qsy h
  rw[hn0 (hus hl▸this.2.2),hus hl]at hv;exact hv.symm
 have hno:l≠[]→qb9 s=false:=fun hl=>by
  cases hq:qb9 s with
  |false=>rfl
  |true =>
   exfalso
   rcases hJ with h|⟨a,r,_,_,h⟩
   ·exact hl h.1
   ·rw[(h hq).2.2.2]at hv;exact h0 (by rw[←hv];simp)
 rw[hrr]at e424;unfold qh4 at e424;by_cases he:e=0
 ·subst he;obtain⟨t0,tl⟩:=hte rfl;have t1:t.length≠0:=fun h=>t0 (List.length_eq_zero_iff.1 h)
  have g2:(t.length:Int)≤v.length:=by omega
  obtain⟨ln,hln⟩:∃ln,IntKind.i64.wrap (line+cnt)=ln:=⟨_,rfl⟩;have hx2:=hx' (v.drop t.length,l++[⟨k,ln,t⟩],ln) ⟨by simp only[zzJ,zzp,zzn,List.length_nil];omega,.inr (by
   cases l with
   |nil =>
    refine⟨⟨k,ln,t⟩,[],rfl,(fun hk ht => ?_),fun h => ?_⟩
    ·simp only at hk ht;have hu:=hus rfl
     subst hu;have hl2:u.length≤v.length:=by rw[←ht];exact tl
     have hn1:n=0:=by rw[←hv,zzJ]at hl2;have:=List.length_pos_iff.2 t0;rw[ht]at this;omega
     subst hn1;rw[←hv]at hnm2;exact hnm2 rfl hk ht
    ·have hvs:=hvs rfl h
     obtain⟨r1,r2,-⟩:=hnm1 (by rw[hvs];exact h)
     exact⟨rfl,r1,by rw[←hvs];exact r2,by rw[r2];simp⟩
   |cons a l =>
    refine⟨a,l++[⟨k,ln,t⟩],rfl,?_,fun h=>by rw[hno (by simp)]at h;cases h⟩
    rcases hJ with h|⟨a',r',h,h1,-⟩
    ·cases h.1
    ·cases h;exact h1)⟩ (by simp only[zzJ];omega)
  clear hx'
  have ed:ATok.dv ⟨k,ln,t⟩ = .a [I k,I ln,.s t]:=rfl
  simp only[List.map_append,zzu,List.map_nil,ed]at hx2;cases l with
  |nil =>
   simp only[List.map_nil,List.nil_append,qao,qaR]at hx2⊢;simp[e422,e423,g1,hv,gv,e424,hln,g2,qhr,qbY,qwz,putAt,qax,qay,List.take_length];exact hx2 _ _ (by simp)
  |cons a l =>
   simp only[zzu,List.cons_append,qao,qaR]at hx2⊢;simp only[zzn]at hi;have h5:(l.length+1+1)*32≤140737488355328:=by omega
   have ht:(l.map ATok.dv).take l.length=l.map ATok.dv:=zzv (by simp)
   simp[e422,e423,g1,hv,gv,e424,hln,g2,h5,ht,qhr,qbY,qwz,putAt,qax,qay,List.take_length];exact hx2 _ _ (by simp)
 ·have ge:=qac he
  cases l with
  |nil =>
   simp[e422,e423,g1,hv,gv,e424,ge,bne,qao,qaR];exact qbP (show qkc s _ from⟨[],true,_,_,rfl,(fun h=>absurd (hnm1 (by rw[hvs rfl h];exact h)).2.2 he),fun h=>absurd h he⟩)
  |cons a l =>
   simp[e422,e423,g1,hv,gv,e424,ge,bne,qao,qaR];exact qbP (show qkc s _ from⟨[],true,_,_,rfl,(fun h=>by rw[hno (by simp)]at h;cases h),fun h=>absurd h he⟩)
theorem qyz(T:Tab)(hT:HT T)(hC:HC T)(hW:HWd T)(s:List UInt8)(hs:s.length≤maxLen):T.val 415 [.s s]=some (.d (.b (qb9 s)),false):=by
 obtain⟨r,e420,l,t,line,e,hr,k1,k2⟩:=qKA T hT hC hW s hs;rw[hr]at e420;cases hn:qb9 s with
 |true =>
  obtain⟨rfl,a,rfl,ha,hb⟩:=k1 hn;rw[qab T (hT 415 qgI rfl) rfl];simp[qgI,Fr.ofArgs,e420,ha,hb]
 |false =>
  rw[qab T (hT 415 qgI rfl) rfl];by_cases he:e=0
  ·subst he;cases l with
   |nil=>simp[qgI,Fr.ofArgs,e420]
   |cons a l =>
    cases l with
    |nil =>
     by_cases hk:a.Kind=1
     ·have ht:¬a.Text=s:=fun h=>by have:=k2 rfl a rfl hk h;rw[hn]at this;cases this
      have gt:=qg0 ht
      simp[qgI,Fr.ofArgs,e420,hk,gt]
     ·have gk:=qac hk
      simp[qgI,Fr.ofArgs,e420,gk]
    |cons b l =>
     have g1:((l.length:Int)+1+1==1)=false:=qac (by omega)
     have g2:¬((l.length:Int)+1+1=1):=by omega
     simp[qgI,Fr.ofArgs,e420,g1]
  ·have ge:=qac he
   simp[qgI,Fr.ofArgs,e420,ge]
theorem hnm(T:Tab)(hT:HT T)(hC:HC T)(hW:HWd T):HNm T:=fun s hs=>⟨_,qyz T hT hC hW s hs⟩
def qbH(s:List UInt8):List AVar→Int×Int
 | []=>(0,4)
 |v::r=>if v.Name=s then (if qbl v.Typ=true then (v.Typ,0)else (0,3))else qbH s r
theorem qtx(s:List UInt8):∀(a b:List AVar),(∀v∈a,v.Name≠s)→qbH s (a++b)=qbH s b
 | [],_,_=>rfl
 |v::a,b,h=>by
  rw[List.cons_append,qbH,if_neg (h v (by simp))]
  exact qtx s a b fun w hw=>h w (by simp[hw])
theorem qm7(s:List UInt8):∀(a:List AVar),(∀v∈a,v.Name≠s)→qbH s a=(0,4)
 | [],_=>rfl
 |v::a,h=>by
  rw[qbH,if_neg (h v (by simp))]
  exact qm7 s a fun w hw=>h w (by simp[hw])
theorem qkQ{α:Type}(l:List α)(i:Nat)(h:i<l.length):l=l.take i++l[i]::l.drop (i+1):=by
 rw[List.getElem_cons_drop,List.take_append_drop]
theorem qCU(T:Tab)(hT:HT T)(s:List UInt8)(vs:List AVar)(t:Bool)(hn:vs.length≤1000){k:KC (PV×Bool)}{r:Option (PV×Bool)}{fr:Fr}{H:Heap}
  (he:qbH s vs=(0,4)→k (.exit 0) [(11,.d (.b false)),(10,.d (I vs.length)),(9,.d (I vs.length)),(8,.d (.l (K1 2) (vs.map AVar.dv) t)),(0,.d (.s s))] []=r)
  (hr:∀fr J,fr.get 4 = .d (I (qbH s vs).1)→fr.get 5 = .d (I (qbH s vs).2)→qak fr=[]→k .ret fr J=r)
  (h0:gc [0,8,9,10] 0 ⟨fr,H⟩=⟨[(10,.d (I 0)),(9,.d (I vs.length)),(8,.d (.l (K1 2) (vs.map AVar.dv) t)),(0,.d (.s s))],[]⟩) :
  kC T.env 0 fr H (.h (.loop [0,8,9,10] qlY,k))=r:=by
 refine qbB (fun i:Nat=>⟨[(10,.d (I i)),(9,.d (I vs.length)),(8,.d (.l (K1 2) (vs.map AVar.dv) t)),(0,.d (.s s))],[]⟩) (fun i=>i≤vs.length∧∀v∈vs.take i,v.Name≠s) (fun i=>vs.length-i) ?_ 0 ⟨zzK _,by simp⟩ h0
 rintro B-i ⟨hi,ha⟩ hx;by_cases hlt:i<vs.length
 ·have h1:(i:Int)<vs.length:=by omega
  have h3:=wr1 (i:=i) (by omega)
  have e:=qyA T hT vs[i].Typ
  by_cases hs:vs[i].Name=s
  ·have hv:qbH s vs=if qbl vs[i].Typ=true then (vs[i].Typ,0)else (0,3):=by
    conv=>lhs;rw[qkQ vs i hlt,qtx s _ _ ha,qbH,if_pos hs]
   rw[hv]at hr;cases hk:qbl vs[i].Typ with
   |true =>
    rw[hk]at e hr;simp only[if_true]at hr;simp[h1,hlt,hs,e];exact hr _ _ (by simp[Fr.get]) (by simp[Fr.get]) (by simp[qak,gh])
   |false =>
    rw[hk]at e hr;simp only[zzg,if_false]at hr;simp[h1,hlt,hs,e];exact hr _ _ (by simp[Fr.get]) (by simp[Fr.get]) (by simp[qak,gh])
  ·have g:=qg0 hs
   have hx':=hx (i+1) ⟨by omega,by
    rw[zzw hlt];intro v hv;rcases zzB.1 hv with hv|hv
    ·exact ha v hv
    ·rw[zzH.1 hv];exact hs⟩ (by omega)
   simp[h1,hlt,g,h3];exact hx' _ _ (by simp)
 ·have:i=vs.length:=by omega
  subst this;rw[List.take_length]at ha;have he':=he (qm7 s vs ha)
  have h1:¬((vs.length:Int)<vs.length):=by omega
  simp;exact he'
theorem qKw(T:Tab)(hT:HT T)(s:List UInt8)(vs:List AVar)(t:Bool)(hn:vs.length≤1000):T.val 410 [.s s,.l (K1 2) (vs.map AVar.dv) t]=some (two (qbH s vs)):=by
 have lp:=fun k r fr H => @qCU T hT s vs t hn k r fr H
 rw[qab T (hT 410 F410 rfl) rfl];unfold two;simp[F410,Fr.ofArgs];refine lp _ _ _ _ (fun h => ?_) (fun fr J h4 h5 hg => ?_) (by simp)
 ·rw[h];simp
 ·simp[h4,h5,hg]
def qaE{α:Type}(g:α→Int):List α→Int
 | []=>0
 |a::r=>if g a=0 then qaE g r else g a
theorem qmn{α:Type}(g:α→Int):∀(a b:List α),(∀v∈a,g v=0)→qaE g (a++b)=qaE g b
 | [],_,_=>rfl
 |v::a,b,h=>by
  rw[List.cons_append,qaE,if_pos (h v (by simp))]
  exact qmn g a b fun w hw=>h w (by simp[hw])
theorem qhe{α:Type}(g:α→Int):∀(a:List α),qaE g a=0↔∀v∈a,g v=0
 | []=>by simp[qaE]
 |v::a=>by
  rw[qaE];by_cases h:g v=0
  ·rw[if_pos h,qhe g a];simp[h]
  ·rw[if_neg h];simp[h]
theorem qCR(T:Tab)(l:List AExpr)(t:Bool)(g:AExpr→Int×Int)(V w:DV)(hg:∀a∈l,T.val 400 [a.dv,V]=some (two (g a)))(hn:l.length*56≤140737488355328){k:KC (PV×Bool)}{r:Option (PV×Bool)}{fr:Fr}{H:Heap}
  (he:qaE (fun a=>(g a).2) l=0→k (.exit 1) [(33,.d (.b false)),(32,.d (I l.length)),(31,.d (I l.length)),(30,.d (.l (K1 4) (l.map AExpr.dv) t)),(6,qao K0 (l.map fun a=>I (g a).1)),(2,pB 0 (l.map fun a=>I (g a).1)),(1,.d V)] (qbd K0 [some (.box (K1 4) (.d w))] (l.map fun a=>I (g a).1))=r)
  (hr:qaE (fun a=>(g a).2) l≠0→∀fr J,fr.get 4 = .d (I 0)→fr.get 5 = .d (I (qaE (fun a=>(g a).2) l))→qak fr=[]→k .ret fr J=r)
  (h0:gc [1,2,6,30,31,32] 0 ⟨fr,H⟩=⟨[(32,.d (I 0)),(31,.d (I l.length)),(30,.d (.l (K1 4) (l.map AExpr.dv) t)),(6,.d (.l K0 [] true)),(2,.p 0 0 0),(1,.d V)],[some (.box (K1 4) (.d w))]⟩) :
  kC T.env 0 fr H (.h (.loop [1,2,6,30,31,32] qkf,k))=r:=by
 refine qbB (fun i:Nat=>⟨[(32,.d (I i)),(31,.d (I l.length)),(30,.d (.l (K1 4) (l.map AExpr.dv) t)),(6,qao K0 ((l.take i).map fun a=>I (g a).1)),(2,pB 0 ((l.take i).map fun a=>I (g a).1)),(1,.d V)],qbd K0 [some (.box (K1 4) (.d w))] ((l.take i).map fun a=>I (g a).1)⟩) (fun i=>i≤l.length∧∀v∈l.take i,(g v).2=0) (fun i=>l.length-i) ?_ 0 ⟨zzK _,by simp⟩ (by rw[h0];rfl)
 rintro B-i ⟨hi,ha⟩ hx;by_cases hlt:i<l.length
 ·have h1:(i:Int)<l.length:=by omega
  have h3:=wr1 (i:=i) (by omega)
  have e:=hg l[i] (zzs hlt)
  unfold two at e;have hl:((l.take i).map fun a=>I (g a).1).length≤i:=by simp;omega
  by_cases hs:(g l[i]).2=0
  ·have hx':=hx (i+1) ⟨by omega,by
    rw[zzw hlt];intro v hv;rcases zzB.1 hv with hv|hv
    ·exact ha v hv
    ·rw[zzH.1 hv];exact hs⟩ (by omega)
   rw[qkV (fun a:AExpr=>I (g a).1) l i hlt]at hx'
   rw[hs]at e;generalize (l.take i).map (fun a=>I (g a).1)=o at *
   cases o with
   |nil =>
    simp only[qao,qbd,pB,List.nil_append]at hx'⊢;simp[h1,hlt,h3,e];exact hx' _ _ (by simp)
   |cons x o =>
    simp only[qao,qbd,pB,List.cons_append]at hx'⊢;simp only[zzn]at hl;have h5:(o.length+1+1)*8≤140737488355328:=by omega
    have ht:o.take o.length=o:=zzv (by simp)
    simp[h1,hlt,h3,h5,ht,e];exact hx' _ _ (by simp)
  ·have hf:qaE (fun a=>(g a).2) l=(g l[i]).2:=by
    conv=>lhs;rw[qkQ l i hlt,qmn _ _ _ ha,qaE,if_neg hs]
   rw[hf]at hr;have hr':=hr hs
   have gs:=qac hs
   generalize (l.take i).map (fun a=>I (g a).1)=o at *
   cases o with
   |nil =>
    simp only[qao,qbd,pB]at⊢;simp[h1,hlt,e,gs,bne];exact hr' _ _ (by simp[Fr.get]) (by simp[Fr.get]) (by simp[qak,gh])
   |cons x o =>
    simp only[qao,qbd,pB]at⊢;simp[h1,hlt,e,gs,bne];exact hr' _ _ (by simp[Fr.get]) (by simp[Fr.get]) (by simp[qak,gh])
 ·have:i=l.length:=by omega
  subst this;rw[List.take_length]at ha⊢;have he':=he ((qhe _ _).2 ha)
  have h1:¬((l.length:Int)<l.length):=by omega
  simp;exact he'
def qmK(op:Int)(l:List AExpr)(g:AExpr→Int×Int):Int×Int :=
 if qaE (fun a=>(g a).2) l=0 then (if (qaO op (l.map fun a=>(g a).1)).2=true then ((qaO op (l.map fun a=>(g a).1)).1,0)else (0,3))else (0,qaE (fun a=>(g a).2) l)
theorem qtn(T:Tab)(hT:HT T)(x:AExpr)(vs:List AVar)(tv:Bool)(hv:vs.length≤1000)(h:x.Op=1∨x.Op=2∨x.Op=3∨x.Op=4) :
  T.val 400 [x.dv,.l (K1 2) (vs.map AVar.dv) tv]=some (two (if x.Op=4 then qbH x.S vs else (x.Op,0))):=by
 have e:=qKw T hT x.S vs tv hv
 unfold two at *
 rw[qab T (hT 400 F400 rfl) rfl];rcases h with h|h|h|h
 ·rw[h,if_neg (by decide)]
  simp[F400,Fr.ofArgs,h]
 ·rw[h,if_neg (by decide)]
  simp[F400,Fr.ofArgs,h]
 ·rw[h,if_neg (by decide)]
  simp[F400,Fr.ofArgs,h]
 ·rw[h,if_pos rfl];simp[F400,Fr.ofArgs,h,e]
theorem qyx(T:Tab)(hT:HT T)(hA:HA T)(x:AExpr)(l:List AExpr)(h2:x.Args.l=l.map AExpr.dv)(hn:l.length*56≤140737488355328)(V:DV)(g:AExpr→Int×Int)(hg:∀a∈l,T.val 400 [a.dv,V]=some (two (g a)))(n1:x.Op≠1)(n2:x.Op≠2)(n3:x.Op≠3)(n4:x.Op≠4) :
  T.val 400 [x.dv,V]=some (two (qmK x.Op l g)):=by
 have lp:=fun w k r fr H => @qCR T l x.Args.t g V w hg hn k r fr H
 have hm:=mxl
 have e411:=fun b=>qo1 T hT hA x.Op (l.map fun a=>(g a).1) b (by rw[zzo,hm];omega)
 simp only[List.map_map]at e411;have hmm:((fun n=>I n)∘fun a:AExpr=>(g a).1)=fun a:AExpr=>I (g a).1:=rfl
 rw[hmm]at e411;have g1:=qac n1
 have g2:=qac n2
 have g3:=qac n3
 have g4:=qac n4
 unfold qmK;generalize qaO x.Op (l.map fun a=>(g a).1)=p at *
 obtain⟨w,ok⟩:=p;unfold qaz at e411;simp only at e411⊢;obtain⟨o,m,s,a⟩:=x;obtain⟨a,t⟩:=a;simp only at h2 lp e411 g1 g2 g3 g4 n1 n2 n3 n4⊢;subst h2;rw[qab T (hT 400 F400 rfl) rfl];unfold two;simp[F400,Fr.ofArgs,g1,g2,g3,g4];refine lp (AExpr.dv ⟨o,m,s,⟨l.map AExpr.dv,t⟩⟩) _ _ _ _ (fun h => ?_) (fun h fr J h4 h5 hg' => ?_) (by simp)
 ·rw[if_pos h];cases ho:l.map (fun a=>I (g a).1)with
  |nil =>
   have ef:=e411 true
   rw[ho]at ef;cases ok with
   |false=>simp[qao,qbd,pB,ef]
   |true=>simp[qao,qbd,pB,ef]
  |cons y o' =>
   have ef:=e411 false
   rw[ho]at ef;have ht:o'.take o'.length=o':=zzv (by simp)
   cases ok with
   |false=>simp[qao,qbd,pB,ht,qaK,pur,qa9,PV.scal,PV.scal1,DV.scal,DV.scal1,ef]
   |true=>simp[qao,qbd,pB,ht,qaK,pur,qa9,PV.scal,PV.scal1,DV.scal,DV.scal1,ef]
 ·rw[if_neg h];simp[h4,h5,hg']
theorem qml(x:Int) : -9223372036854775808≤(qbE x).1∧(qbE x).1<9223372036854775808:=by unfold qbE;split<;>simp<;>omega
theorem qm9(x:Int) : -9223372036854775808≤IntKind.i64.wrap x∧IntKind.i64.wrap x<9223372036854775808:=by rw[wI];omega
theorem qIe(a b:AValue) : -9223372036854775808≤(qht a b).1∧(qht a b).1<9223372036854775808:=by
 unfold qht;split
 ·split
  ·decide
  ·exact qm9 _
 ·split
  ·decide
  ·split<;>exact qml _
theorem qzt(op:Int)(a b:AValue) : -9223372036854775808≤(qgP op a b).1∧(qgP op a b).1<9223372036854775808:=by
 unfold qgP qiI;split
 ·exact qml _
 ·split
  ·exact qml _
  ·split
   ·split<;>exact qml _
   ·split
    ·decide
    ·exact qIe a b
theorem qzL(op:Int):∀vs:List AValue,-9223372036854775808≤(clP op vs).1∧(clP op vs).1<9223372036854775808
 | []=>by simp[clP]
 | [_]=>qml _
 | [a,b]=>qzt op a b
 | _::_::_::_=>by simp[clP]
theorem qjJ{v:AValue}(h:okV v=true)(h5:v.Typ=5):v.N=0∨v.N=1:=by
 unfold okV at h;rw[h5]at h;simpa using h
theorem qzI(op a b:Int)(ha : -9223372036854775808≤a∧a<9223372036854775808)(hb : -9223372036854775808≤b∧b<9223372036854775808) : -9223372036854775808≤qeU op a b∧qeU op a b<9223372036854775808:=by
 have:=qm9 (a*b)
 unfold qeU;repeat' split
 all_goals omega
theorem qzH(op:Int)(vs:List AValue)(hi:∀v∈vs,v.i)(hk:∀v∈vs,okV v=true)(h:(qaO op (vs.map (·.Typ))).2=true)(ho:op<5∨9<op) :
  (-9223372036854775808≤chP op vs∧chP op vs<9223372036854775808)∧((qaO op (vs.map (·.Typ))).1=5→chP op vs=0∨chP op vs=1):=by
 unfold qaO at h⊢;by_cases ha:(vs.map (·.Typ)).all qbl=true
 ·rw[if_pos ha]at h⊢;match vs,hi,hk,h with
  | [],_,_,h=>cases h
  | [a],hi,hk,h =>
   simp only[zzu,List.map_nil,chP]at h⊢;refine⟨qm9 _,fun _ => ?_⟩
   have ho2:(qbM op a.Typ).2=true:=by
    by_cases c:(qbM op a.Typ).2=true
    ·exact c
    ·rw[if_neg c]at h;cases h
   have h16:op=16:=by have:=qoB ho2;omega
   subst h16;have h5:a.Typ=5:=by simpa[qbM]using ho2
   rcases qjJ (hk a (by simp)) h5 with e|e
   ·rw[e];exact .inr (by decide)
   ·rw[e];exact .inl (by decide)
  | [a,b],hi,hk,h =>
   simp only[zzu,List.map_nil,chP]at h⊢;have ia:=hi a (by simp)
   have ib:=hi b (by simp)
   unfold AValue.i at ia ib;refine⟨qzI op a.N b.N ia ib,fun h5 => ?_⟩
   have ho2:(qa7 op a.Typ b.Typ).2=true:=by
    by_cases c:(qa7 op a.Typ b.Typ).2=true
    ·exact c
    ·rw[if_neg c]at h;cases h
   rw[if_pos ho2]at h5;simp only at h5;unfold qa7 at ho2 h5;by_cases h1:op=10∨op=11
   ·unfold qeU;rcases h1 with h1|h1<;>subst h1<;>simp<;>omega
   rw[if_neg h1]at ho2 h5;by_cases h2:op=12∨op=13
   ·unfold qeU;rcases h2 with h1|h1<;>subst h1<;>simp<;>omega
   rw[if_neg h2]at ho2 h5;by_cases h3:op=14∨op=15
   ·rw[if_pos h3]at ho2;have hb:a.Typ=b.Typ∧a.Typ=5:=by simpa using ho2
    have ka:=qjJ (hk a (by simp)) hb.2
    have kb:=qjJ (hk b (by simp)) (by rw[←hb.1];exact hb.2)
    unfold qeU;rcases h3 with h1|h1<;>subst h1<;>rcases ka with ka|ka<;>rcases kb with kb|kb<;>rw[ka,kb]<;>decide
   rw[if_neg h3]at ho2 h5;by_cases h4:op=17∨op=18
   ·rw[if_pos h4]at ho2 h5;have hb:a.Typ=b.Typ∧a.Typ≠5:=by simpa using ho2
    exact absurd h5 hb.2
   rw[if_neg h4]at ho2 h5;have hv:arV op a.Typ b.Typ≠0:=by simpa using ho2
   have:=qp9 hv
   omega
  | [a,b,c],hi,hk,h =>
   simp only[zzu,List.map_nil,chP]at h⊢;have ib:=hi b (by simp)
   have ic:=hi c (by simp)
   unfold AValue.i at ib ic;refine⟨by split<;>assumption,fun h5 => ?_⟩
   by_cases c':op=19∧a.Typ=5∧b.Typ=c.Typ
   ·rw[if_pos c']at h5;simp only at h5;have kb:=qjJ (hk b (by simp)) h5
    have kc:=qjJ (hk c (by simp)) (by rw[←c'.2.2];exact h5)
    split<;>assumption
   ·rw[if_neg c']at h;cases h
  | _::_::_::_::_,_,_,h=>cases h
 ·rw[if_neg ha]at h;cases h
theorem qzc(op:Int)(vs:List AValue)(hi:∀v∈vs,v.i)(h:(qaO op (vs.map (·.Typ))).2=true)(h0:(qfY op vs).2=0) :
  (qfY op vs).1.Typ=(qaO op (vs.map (·.Typ))).1∧(qfY op vs).1.i∧((qaO op (vs.map (·.Typ))).1=5→(qfY op vs).1.N=0∨(qfY op vs).1.N=1):=by
 have hc:=qzH op vs hi
 unfold qfY qbi at h0⊢;rw[if_neg (by rw[h];decide)]at h0⊢
 by_cases ha:vs.all okV=true
 ·have hk:∀v∈vs,okV v=true:=List.all_eq_true.1 ha
  rw[if_neg (by rw[ha];decide)]at h0⊢
  by_cases ho:op<5∨9<op
  ·obtain⟨c1,c2⟩:=hc hk h ho;rw[if_pos ho];exact⟨rfl,c1,c2⟩
  ·rw[if_neg ho]at h0⊢;by_cases hf:(clP op vs).2=0
   ·rw[if_pos hf]at h0⊢;by_cases hv:okV ⟨(qaO op (vs.map (·.Typ))).1,(clP op vs).1⟩=true
    ·rw[if_pos hv];exact⟨rfl,qzL op vs,fun h5=>qjJ hv h5⟩
    ·rw[if_neg hv]at h0;cases h0
   ·rw[if_neg hf]at h0;exact absurd h0 hf
 ·rw[if_pos (by simpa using ha)]at h0;cases h0
def qge(s:List UInt8):List AVar→List AValue→AValue
 |v::r,w::q=>if v.Name=s then w else qge s r q
 | _,_=>⟨0,0⟩
theorem qqC(s:List UInt8):∀(vs:List AVar) (es:List AValue) (i:Nat) (h:i<vs.length) (h':i<es.length),(∀v∈vs.take i,v.Name≠s)→vs[i].Name=s→qge s vs es=es[i]
 |v::vs,e::es,0,_,_,_,hs=>by
  rw[qge,if_pos (show v.Name=s from hs)];rfl
 |v::vs,e::es,i+1,h,h',ha,hs=>by
  rw[qge,if_neg (ha v (by simp))]
  exact qqC s vs es i (by simpa using h) (by simpa using h') (fun w hw=>ha w (by simp[hw])) hs
theorem qDl(T:Tab)(x:AExpr)(vs:List AVar)(es:List AValue)(tv te:Bool)(hn:vs.length≤1000)(hl:vs.length=es.length)(hf:(qbH x.S vs).2=0){k:KC (PV×Bool)}{r:Option (PV×Bool)}{fr:Fr}{H:Heap}(z:DV)
  (hr:∀fr J,fr.get 6 = .p 0 0 0→fr.get 7 = .d (I 0)→qak fr=[]→k .ret fr (some (.box (K1 2) (.d (qge x.S vs es).dv))::J)=r)
  (h0:gc [1,2,3,6,36,37,38] 0 ⟨fr,H⟩=⟨[(38,.d (I 0)),(37,.d (I vs.length)),(36,.d (.l (K1 2) (vs.map AVar.dv) tv)),(6,.p 0 0 0),(3,.p 1 0 0),(2,.d (.l (K1 2) (es.map AValue.dv) te)),(1,.d (.l (K1 2) (vs.map AVar.dv) tv))],[some (.box (K1 2) (.d z)),some (.box (K1 4) (.d x.dv))]⟩) :
  kC T.env 0 fr H (.h (.loop [1,2,3,6,36,37,38] qpX,k))=r:=by
 refine qbB (fun i:Nat=>⟨[(38,.d (I i)),(37,.d (I vs.length)),(36,.d (.l (K1 2) (vs.map AVar.dv) tv)),(6,.p 0 0 0),(3,.p 1 0 0),(2,.d (.l (K1 2) (es.map AValue.dv) te)),(1,.d (.l (K1 2) (vs.map AVar.dv) tv))],[some (.box (K1 2) (.d z)),some (.box (K1 4) (.d x.dv))]⟩) (fun i=>i≤vs.length∧∀v∈vs.take i,v.Name≠x.S) (fun i=>vs.length-i) ?_ 0 ⟨zzK _,by simp⟩ h0
 rintro B-i ⟨hi,ha⟩ hx;by_cases hlt:i<vs.length
 ·have h1:(i:Int)<vs.length:=by omega
  have h1':(i:Int)<es.length:=by omega
  have hlt':i<es.length:=by omega
  have h3:=wr1 (i:=i) (by omega)
  by_cases hs:vs[i].Name=x.S
  ·rw[qqC x.S vs es i hlt hlt' ha hs]at hr;simp[h1,h1',hlt,hlt',hs];exact hr _ _ (by simp[Fr.get]) (by simp[Fr.get]) (by simp[qak,gh])
  ·have g:=qg0 hs
   have hx':=hx (i+1) ⟨by omega,by
    rw[zzw hlt];intro v hv;rcases zzB.1 hv with hv|hv
    ·exact ha v hv
    ·rw[zzH.1 hv];exact hs⟩ (by omega)
   simp[h1,hlt,g,h3];exact hx' _ _ (by simp)
 ·exfalso
  have:i=vs.length:=by omega
  subst this;rw[List.take_length]at ha;rw[qm7 x.S vs ha]at hf;cases hf
theorem qDm(T:Tab)(x:AExpr)(l:List AExpr)(t:Bool)(g:AExpr→AValue×Int)(V E z:DV)(hg:∀a∈l,T.val 947 [a.dv,V,E]=some (qam (g a)))(hn:l.length*56≤140737488355328){k:KC (PV×Bool)}{r:Option (PV×Bool)}{fr:Fr}{H:Heap}
  (he:qaE (fun a=>(g a).2) l=0→k (.exit 3) [(85,.d (.b false)),(84,.d (I l.length)),(83,.d (I l.length)),(82,.d (.l (K1 4) (l.map AExpr.dv) t)),(12,qao (K1 2) (l.map fun a=>(g a).1.dv)),(6,pB 0 (l.map fun a=>(g a).1.dv)),(3,pB 1 (l.map fun a=>(g a).1.dv)),(2,.d E),(1,.d V)] (qbd (K1 2) [some (.box (K1 2) (.d z)),some (.box (K1 4) (.d x.dv))] (l.map fun a=>(g a).1.dv))=r)
  (hr0:qaE (fun a=>(g a).2) l≠0→∀fr J,fr.get 6 = .p 0 0 0→fr.get 7 = .d (I (qaE (fun a=>(g a).2) l))→qak fr=[]→k .ret fr (some (.box (K1 2) (.d (.a [I 0,I 0])))::J)=r)
  (hr1:qaE (fun a=>(g a).2) l≠0→∀fr s J,fr.get 6 = .p 1 0 0→fr.get 7 = .d (I (qaE (fun a=>(g a).2) l))→qak fr=[]→k .ret fr (s::some (.box (K1 2) (.d (.a [I 0,I 0])))::J)=r)
  (h0:gc [1,2,3,6,12,82,83,84] 0 ⟨fr,H⟩=⟨[(84,.d (I 0)),(83,.d (I l.length)),(82,.d (.l (K1 4) (l.map AExpr.dv) t)),(12,.d (.l (K1 2) [] true)),(6,.p 0 0 0),(3,.p 1 0 0),(2,.d E),(1,.d V)],[some (.box (K1 2) (.d z)),some (.box (K1 4) (.d x.dv))]⟩) :
  kC T.env 0 fr H (.h (.loop [1,2,3,6,12,82,83,84] qkl,k))=r:=by
 refine qbB (fun i:Nat=>⟨[(84,.d (I i)),(83,.d (I l.length)),(82,.d (.l (K1 4) (l.map AExpr.dv) t)),(12,qao (K1 2) ((l.take i).map fun a=>(g a).1.dv)),(6,pB 0 ((l.take i).map fun a=>(g a).1.dv)),(3,pB 1 ((l.take i).map fun a=>(g a).1.dv)),(2,.d E),(1,.d V)],qbd (K1 2) [some (.box (K1 2) (.d z)),some (.box (K1 4) (.d x.dv))] ((l.take i).map fun a=>(g a).1.dv)⟩) (fun i=>i≤l.length∧∀v∈l.take i,(g v).2=0) (fun i=>l.length-i) ?_ 0 ⟨zzK _,by simp⟩ (by rw[h0];rfl)
 rintro B-i ⟨hi,ha⟩ hx;by_cases hlt:i<l.length
 ·have h1:(i:Int)<l.length:=by omega
  have h3:=wr1 (i:=i) (by omega)
  have e:=hg l[i] (zzs hlt)
  unfold qam at e;have hl:((l.take i).map fun a=>(g a).1.dv).length≤i:=by simp;omega
  by_cases hs:(g l[i]).2=0
  ·have hx':=hx (i+1) ⟨by omega,by
    rw[zzw hlt];intro v hv;rcases zzB.1 hv with hv|hv
    ·exact ha v hv
    ·rw[zzH.1 hv];exact hs⟩ (by omega)
   rw[qkV (fun a:AExpr=>(g a).1.dv) l i hlt]at hx'
   rw[hs]at e;generalize (l.take i).map (fun a=>(g a).1.dv)=o at *
   cases o with
   |nil =>
    simp only[qao,qbd,pB,List.nil_append]at hx'⊢;simp[h1,hlt,h3,e];exact hx' _ _ (by simp)
   |cons y o =>
    simp only[qao,qbd,pB,List.cons_append]at hx'⊢;simp only[zzn]at hl;have h5:(o.length+1+1)*16≤140737488355328:=by omega
    have ht:o.take o.length=o:=zzv (by simp)
    simp[h1,hlt,h3,h5,ht,e];exact hx' _ _ (by simp)
  ·have hf:qaE (fun a=>(g a).2) l=(g l[i]).2:=by
    conv=>lhs;rw[qkQ l i hlt,qmn _ _ _ ha,qaE,if_neg hs]
   rw[hf]at hr0 hr1;have gs:=qac hs
   generalize (l.take i).map (fun a=>(g a).1.dv)=o at *
   cases o with
   |nil =>
    have hr':=hr0 hs
    simp only[qao,qbd,pB]at⊢;simp[h1,hlt,e,gs,bne,↓qaA,↓qaC,mkA,qal];exact hr' _ _ (by simp[Fr.get]) (by simp[Fr.get]) (by simp[qak,gh])
   |cons y o =>
    have hr':=hr1 hs
    simp only[qao,qbd,pB]at⊢;simp[h1,hlt,e,gs,bne,↓qaA,↓qaC,mkA,qal];exact hr' _ _ _ (by simp[Fr.get]) (by simp[Fr.get]) (by simp[qak,gh])
 ·have:i=l.length:=by omega
  subst this;rw[List.take_length]at ha⊢;have he':=he ((qhe _ _).2 ha)
  have h1:¬((l.length:Int)<l.length):=by omega
  simp;exact he'
theorem qA0{n:Int}(h:inK .i64 n) : -9223372036854775808≤n∧n≤9223372036854775807:=by
 unfold inK at h;simp[Lit.wf]at h;simp[IntKind.min,IntKind.signed,IntKind.bits]at h;omega
theorem qxO(v:AValue)(f:Int):PV.scal (.t [.d v.dv,.d (I f)])=true:=rfl
def qk2(vs:List AVar)(es:List AValue):Prop:=vs.length=es.length∧∀i (h:i<vs.length) (h':i<es.length),es[i].Typ=vs[i].Typ∧es[i].i∧okV es[i]=true
theorem qAp{v:AVar}{w:AValue}{vs:List AVar}{es:List AValue}(h:qk2 (v::vs) (w::es)):qk2 vs es :=
 ⟨by simpa using h.1,fun i hi hi'=>h.2 (i+1) (Nat.succ_lt_succ hi) (Nat.succ_lt_succ hi')⟩
theorem qyQ(s:List UInt8):∀(vs:List AVar) (es:List AValue),qk2 vs es→(qbH s vs).2=0→(qge s vs es).Typ=(qbH s vs).1∧(qge s vs es).i∧((qbH s vs).1=5→(qge s vs es).N=0∨(qge s vs es).N=1)
 | [],_,_,h=>by cases h
 |v::vs,[],hE,_=>by have:=hE.1;simp at this
 |v::vs,w::es,hE,h=>by
  rw[qbH]at h⊢;rw[qge];by_cases hs:v.Name=s
  ·rw[if_pos hs]at h⊢;rw[if_pos hs];obtain⟨e1,e2,e3⟩:=hE.2 0 (by simp) (by simp)
   simp only[List.getElem_cons_zero]at e1 e2 e3;by_cases hk:qbl v.Typ=true
   ·rw[if_pos hk];exact⟨e1,e2,fun h5=>qjJ e3 (by rw[e1];exact h5)⟩
   ·rw[if_neg hk]at h;cases h
  ·rw[if_neg hs]at h⊢;rw[if_neg hs];exact qyQ s vs es (qAp hE) h
theorem qLz(T:Tab)(hT:HT T)(x:AExpr)(V E:DV)(h:x.Op=1∨x.Op=2∨x.Op=3):T.val 947 [x.dv,V,E]=some (qam (⟨x.Op,x.N⟩,0)):=by
 rw[qab T (hT 947 F947 rfl) rfl];rcases h with h|h|h
 ·rw[h];simp[F947,Fr.ofArgs,h,↓qaA,↓qaC,↓qaB,putAt,mkA,qax,qay,qam,AValue.dv]
 ·rw[h];simp[F947,Fr.ofArgs,h,↓qaA,↓qaC,↓qaB,putAt,mkA,qax,qay,qam,AValue.dv]
 ·rw[h];simp[F947,Fr.ofArgs,h,↓qaA,↓qaC,↓qaB,putAt,mkA,qax,qay,qam,AValue.dv]
theorem qLB(T:Tab)(hT:HT T)(x:AExpr)(vs:List AVar)(es:List AValue)(tv te:Bool)(hn:vs.length≤1000)(hl:vs.length=es.length)(h:x.Op=4)(hf:(qbH x.S vs).2=0):T.val 947 [x.dv,.l (K1 2) (vs.map AVar.dv) tv,.l (K1 2) (es.map AValue.dv) te]=some (qam (qge x.S vs es,0)):=by
 have lp:=fun k r fr H => @qDl T x vs es tv te hn hl hf k r fr H (.a [I 0,I 0])
 rw[qab T (hT 947 F947 rfl) rfl];simp[F947,Fr.ofArgs,h];refine lp _ _ _ _ (fun fr J h6 h7 hg => ?_) (by simp)
 simp[h6,h7,hg,qam]
theorem qLA(T:Tab)(hT:HT T)(hA:HA T)(x:AExpr)(l:List AExpr)(h2:x.Args.l=l.map AExpr.dv)(hn:l.length*56≤140737488355328)(V E:DV)(g:AExpr→AValue×Int)(hg:∀a∈l,T.val 947 [a.dv,V,E]=some (qam (g a)))(hi:∀a∈l,(g a).2=0→(g a).1.i)(n1:x.Op≠1)(n2:x.Op≠2)(n3:x.Op≠3)(n4:x.Op≠4)(n5:x.Op≠19) :
  T.val 947 [x.dv,V,E]=some (qam (if qaE (fun a=>(g a).2) l=0 then qfY x.Op (l.map fun a=>(g a).1)else (⟨0,0⟩,qaE (fun a=>(g a).2) l))):=by
 have lp:=fun k r fr H => @qDm T x l x.Args.t g V E (.a [I 0,I 0]) hg hn k r fr H
 have hmm:∀(l:List AExpr),(l.map fun a=>(g a).1).map AValue.dv=l.map fun a=>(g a).1.dv:=fun l=>by rw[List.map_map];rfl
 have e967:=fun b (h:qaE (fun a=>(g a).2) l=0)=>qLL T hT hA x.Op (l.map fun a=>(g a).1) b (by rw[zzo];exact hn) (fun v hv=>by
  obtain⟨a,ha,rfl⟩:=List.mem_map.1 hv;exact hi a ha ((qhe _ _).1 h a ha))
 simp only[hmm]at e967;have g1:=qac n1
 have g2:=qac n2
 have g3:=qac n3
 have g4:=qac n4
 have g5:=qac n5
 generalize qfY x.Op (l.map fun a=>(g a).1)=p at *
 obtain⟨v,f⟩:=p;unfold qam at e967⊢;simp only at e967;obtain⟨o,m,s,a⟩:=x;obtain⟨a,t⟩:=a;simp only at h2 lp e967 g1 g2 g3 g4 g5 n1 n2 n3 n4 n5⊢;subst h2;rw[qab T (hT 947 F947 rfl) rfl];simp[F947,Fr.ofArgs,g1,g2,g3,g4,g5];refine lp _ _ _ _ (fun h => ?_) (fun h fr J h6 h7 hg' => ?_) (fun h fr z J h6 h7 hg' => ?_) (by simp)
 ·rw[if_pos h];cases ho:l.map (fun a=>(g a).1.dv)with
  |nil =>
   have ef:=e967 true h
   rw[ho]at ef;simp[qao,qbd,pB,ef]
  |cons y o' =>
   have ef:=e967 false h
   rw[ho]at ef;have ht:o'.take o'.length=o':=zzv (by simp)
   simp[qao,qbd,pB,ht,qaK,pur,qa9,qxO,ef]
 ·rw[if_neg h];simp[h6,h7,hg',AValue.dv]
 ·rw[if_neg h];simp[h6,h7,hg',AValue.dv]
theorem qLy(T:Tab)(hT:HT T)(x c a b:AExpr)(h2:x.Args.l=[c.dv,a.dv,b.dv])(V E:DV)(p q s:AValue×Int)(hc:T.val 947 [c.dv,V,E]=some (qam p))(ha:p.2=0→p.1.N=1→T.val 947 [a.dv,V,E]=some (qam q))(hb:p.2=0→p.1.N=0→T.val 947 [b.dv,V,E]=some (qam s))(h01:p.2=0→p.1.N=0∨p.1.N=1)(h:x.Op=19) :
  T.val 947 [x.dv,V,E]=some (qam (if p.2=0 then (if p.1.N=1 then q else s)else (⟨0,0⟩,p.2))):=by
 obtain⟨o,m,w,l⟩:=x;obtain⟨l,t⟩:=l;simp only at h2 h;subst h2;subst h;obtain⟨v,f⟩:=p;unfold qam at *
 simp only at hc ha hb h01⊢;have w1:IntKind.i64.wrap 1=1:=by decide
 have w2:IntKind.i64.wrap 2=2:=by decide
 rw[qab T (hT 947 F947 rfl) rfl];by_cases hf:f=0
 ·subst hf;rw[if_pos rfl];rcases h01 rfl with hn|hn
  ·have e:=hb rfl hn
   rw[if_neg (by omega)]
   simp[F947,Fr.ofArgs,hc,hn,e,w2]
  ·have e:=ha rfl hn
   rw[if_pos hn];simp[F947,Fr.ofArgs,hc,hn,e,w1]
 ·have gf:=qac hf
  rw[if_neg hf];simp[F947,Fr.ofArgs,hc,gf,bne,↓qaA,↓qaC,mkA,qal,AValue.dv]
theorem qIH{ts:List Int}(h:(qaO 19 ts).2=true):∃b,ts=[5,b,b]∧(qaO 19 ts).1=b:=by
 unfold qaO at h⊢;by_cases ha:ts.all qbl=true
 ·rw[if_pos ha]at h⊢;match ts,h with
  | [],h=>cases h
  | [a],h=>simp[qbM]at h
  | [a,b],h =>
   have:(qa7 19 a b).2=true:=by
    by_cases c:(qa7 19 a b).2=true
    ·exact c
    ·simp only at h;rw[if_neg c]at h;cases h
   exact absurd rfl (qth this).2.2
  | [a,b,c],h =>
   have h':a=5∧b=c:=by
    by_cases c':a=5∧b=c
    ·exact c'
    ·exfalso;simp[c']at h
   obtain⟨rfl,rfl⟩:=h';exact⟨b,rfl,by simp⟩
  | _::_::_::_::_,h=>cases h
 ·rw[if_neg ha]at h;cases h
theorem qJi{α:Type}{f:α→Int}{l:List α}{x y z:Int}(h:l.map f=[x,y,z]):∃a b c,l=[a,b,c]∧f a=x∧f b=y∧f c=z:=by
 cases l with
 |nil=>simp at h
 |cons a l =>
  cases l with
  |nil=>simp at h
  |cons b l =>
   cases l with
   |nil=>simp at h
   |cons c l =>
    cases l with
    |nil =>
     simp at h;exact⟨a,b,c,rfl,h.1,h.2.1,h.2.2⟩
    |cons d l=>simp at h
def evB:List AVar→List AValue→Bool
 | [],[]=>true
 |v::vs,e::es=>(decide (e.Typ=v.Typ)&&okV e)&&evB vs es
 | _,_=>false
theorem quT:∀(vs:List AVar) (es:List AValue),(∀e∈es,e.i)→evB vs es=true→qk2 vs es
 | [],[],_,_=>⟨rfl,fun i h=>absurd h (zzm _)⟩
 | [],_::_,_,h=>by cases h
 | _::_,[],_,h=>by cases h
 |v::vs,e::es,hi,h=>by
  simp only[evB,zzf,zzq]at h;have ih:=quT vs es (fun w hw=>hi w (by simp[hw])) h.2
  refine⟨by simp[ih.1],fun i h1 h2 => ?_⟩
  cases i with
  |zero=>exact⟨h.1.1,hi e (by simp),h.1.2⟩
  |succ i=>exact ih.2 i (by simpa using h1) (by simpa using h2)
theorem qqI:∀(vs:List AVar) (es:List AValue),vs.length≠es.length→evB vs es=false
 | [],[],h=>absurd rfl h
 | [],_::_,_=>rfl
 | _::_,[],_=>rfl
 |v::vs,e::es,h=>by
  rw[evB,qqI vs es (by simpa using h),Bool.and_false]
theorem qDk(T:Tab)(hT:HT T)(vs:List AVar)(es:List AValue)(tv te:Bool)(hn:vs.length≤1000)(hl:vs.length=es.length){k:KC (PV×Bool)}{r:Option (PV×Bool)}{fr:Fr}{H:Heap}
  (he:evB vs es=true→k (.exit 0) [(15,.d (.b false)),(14,.d (I es.length)),(13,.d (I es.length)),(12,.d (.l (K1 2) (es.map AValue.dv) te)),(0,.d (.l (K1 2) (vs.map AVar.dv) tv))] []=r)
  (hr:evB vs es=false→∀fr J,fr.get 4 = .d (.b false)→qak fr=[]→k .ret fr J=r)
  (h0:gc [0,12,13,14] 0 ⟨fr,H⟩=⟨[(14,.d (I 0)),(13,.d (I es.length)),(12,.d (.l (K1 2) (es.map AValue.dv) te)),(0,.d (.l (K1 2) (vs.map AVar.dv) tv))],[]⟩) :
  kC T.env 0 fr H (.h (.loop [0,12,13,14] ql3,k))=r:=by
 refine qbB (fun i:Nat=>⟨[(14,.d (I i)),(13,.d (I es.length)),(12,.d (.l (K1 2) (es.map AValue.dv) te)),(0,.d (.l (K1 2) (vs.map AVar.dv) tv))],[]⟩) (fun i=>i≤es.length∧evB vs es=evB (vs.drop i) (es.drop i)) (fun i=>es.length-i) ?_ 0 ⟨zzK _,by simp⟩ h0
 rintro B-i ⟨hi,ha⟩ hx;by_cases hlt:i<es.length
 ·have h1:(i:Int)<es.length:=by omega
  have h1':(i:Int)<vs.length:=by omega
  have hlt':i<vs.length:=by omega
  have h3:=wr1 (i:=i) (by omega)
  have e:=qtv T hT es[i]
  rw[zzz hlt,zzz hlt',evB]at ha;by_cases c:es[i].Typ=vs[i].Typ
  ·cases hk:okV es[i]with
   |true =>
    rw[hk,decide_eq_true c,Bool.true_and,Bool.true_and]at ha;rw[hk]at e;have hx':=hx (i+1) ⟨by omega,ha⟩ (by omega)
    simp[h1,h1',hlt,hlt',c,e,bne,h3];exact hx' _ _ (by simp)
   |false =>
    rw[hk,Bool.and_false,Bool.false_and]at ha;rw[hk]at e;have hr':=hr ha
    simp[h1,h1',hlt,hlt',c,e,bne];exact hr' _ _ (by simp[Fr.get]) (by simp[qak,gh])
  ·rw[decide_eq_false c,Bool.false_and,Bool.false_and]at ha;have g:=qac c
   have hr':=hr ha
   simp[h1,h1',hlt,hlt',g,bne];exact hr' _ _ (by simp[Fr.get]) (by simp[qak,gh])
 ·have:i=es.length:=by omega
  subst this;rw[zzF (zzt _),zzF (by omega)]at ha
  have he':=he ha
  have h1:¬((es.length:Int)<es.length):=by omega
  simp;exact he'
theorem qLx(T:Tab)(hT:HT T)(vs:List AVar)(es:List AValue)(tv te:Bool)(hn:vs.length≤1000):T.val 946 [.l (K1 2) (vs.map AVar.dv) tv,.l (K1 2) (es.map AValue.dv) te]=some (.d (.b (evB vs es)),false):=by
 rw[qab T (hT 946 F946 rfl) rfl];by_cases hl:vs.length=es.length
 ·have lp:=fun k r fr H => @qDk T hT vs es tv te hn hl k r fr H
  have hli:((vs.length:Int)==(es.length:Int))=true:=by simp[hl]
  simp[F946,Fr.ofArgs,hl,bne];refine lp _ _ _ _ (fun h => ?_) (fun h fr J h4 hg => ?_) (by simp)
  ·rw[h];simp
  ·rw[h];simp[h4,hg]
 ·have hli:((vs.length:Int)==(es.length:Int))=false:=qac (by omega)
  have hli2:¬((vs.length:Int)=(es.length:Int)):=by omega
  rw[qqI vs es hl];simp[F946,Fr.ofArgs,hli,bne]
end
structure MvY (Y:Nat→List PV→Heap→Option (PV×Heap)) (σ:Type) (HS:σ→Heap) (m o pj pa:Nat) (j:List AEntry) (t:Bool) (acc:Int) (P:σ→Prop) (f:σ→AEntry→ALeg→σ):Prop where
 len:∀s,(HS s).length=m
 cl:∀s,Cl (HS s)
 oj:∀s J,Heap.obj (HS s++J) pj=some (.box K0 (.d (.l (K1 10) (j.map AEntry.dv) t)))
 oa:∀s J,Heap.obj (HS s++J) pa=some (.box K0 (.d (I acc)))
 lo:o<m∧pj<m∧pa<m
 hp:∀s e x,P s→e∈j→x∈e.Legs.l→P (f s e x)
 y:∀s e x,P s→e∈j→x∈e.Legs.l→x.Account=acc→Y o [.d e.dv,.d (I x.Amount)] (HS s++[some (.box (K1 10) (.d e.dv)),some (.box (K1 3) (.d x.dv))])=some (.d (.b true),HS (f s e x)++[some (.box (K1 10) (.d e.dv)),some (.box (K1 3) (.d x.dv))])
def mvL{σ:Type}(acc:Int)(f:σ→AEntry→ALeg→σ)(e:AEntry)(_:Nat)(s:σ)(x:ALeg):σ:=if x.Account=acc then f s e x else s
def mvE{σ:Type}(acc:Int)(f:σ→AEntry→ALeg→σ)(_:Nat)(s:σ)(e:AEntry):σ:=qag (mvL acc f e) 0 s e.Legs.l
section
variable {Y : Nat → List PV → Heap → Option (PV × Heap)} {σ : Type} {HS : σ → Heap} {m o pj pa : Nat} {j : List AEntry} {t : Bool} {acc : Int} {P : σ → Prop} {f : σ → AEntry → ALeg → σ}
theorem qCX(T:Tab)(h:MvY Y σ HS m o pj pa j t acc P f)(e:AEntry)(he:e∈j)(hn:e.Legs.l.length≤maxLen)(oi:Nat)(s0:σ)(hs0:P s0){k:KC (PV×Heap)}{fr:Fr}{H:Heap}
  (h0:gc [0,2,5,8,9,10,15,16,17] m ⟨fr,H⟩=⟨[(17,.d (I 0)),(16,.d (I e.Legs.l.length)),(15,.d (.l (K1 3) (e.Legs.l.map ALeg.dv) e.Legs.t)),(10,.d (I oi)),(9,.d (I j.length)),(8,.d (.l (K1 10) (j.map AEntry.dv) t)),(5,.p m 0 0),(2,.p pa 0 0),(0,.h o)],HS s0++[some (.box (K1 10) (.d e.dv))]⟩) :
  kC (T.envY Y) m fr H (.h (.loop [0,2,5,8,9,10,15,16,17] qpI,k))=k (.exit 2) [(18,.d (.b false)),(17,.d (I e.Legs.l.length)),(16,.d (I e.Legs.l.length)),(15,.d (.l (K1 3) (e.Legs.l.map ALeg.dv) e.Legs.t)),(10,.d (I oi)),(9,.d (I j.length)),(8,.d (.l (K1 10) (j.map AEntry.dv) t)),(5,.p m 0 0),(2,.p pa 0 0),(0,.h o)] (HS (qag (mvL acc f e) 0 s0 e.Legs.l)++[some (.box (K1 10) (.d e.dv))]):=by
 have hm:=mxl
 rw[qa3 e.Legs.l (fun i (s:σ)=>⟨[(17,.d (I i)),(16,.d (I e.Legs.l.length)),(15,.d (.l (K1 3) (e.Legs.l.map ALeg.dv) e.Legs.t)),(10,.d (I oi)),(9,.d (I j.length)),(8,.d (.l (K1 10) (j.map AEntry.dv) t)),(5,.p m 0 0),(2,.p pa 0 0),(0,.h o)],HS s++[some (.box (K1 10) (.d e.dv))]⟩) (fun _ s=>P s) (fun i s x c=>c (mvL acc f e i s x)) (fun s=>k (.exit 2) [(18,.d (.b false)),(17,.d (I e.Legs.l.length)),(16,.d (I e.Legs.l.length)),(15,.d (.l (K1 3) (e.Legs.l.map ALeg.dv) e.Legs.t)),(10,.d (I oi)),(9,.d (I j.length)),(8,.d (.l (K1 10) (j.map AEntry.dv) t)),(5,.p m 0 0),(2,.p pa 0 0),(0,.h o)] (HS s++[some (.box (K1 10) (.d e.dv))])) ?_ ?_ h0 hs0]
 ·rw[qbG (mvL acc f e) _ _ (fun _ _ _ _=>rfl)]
 ·intro B _ s _;simp
 ·intro B _ i s hi hs c hc;have h1:(i:Int)<e.Legs.l.length:=by omega
  have h3:=wr1 (i:=i) (by omega)
  have hx:e.Legs.l[i]∈e.Legs.l:=zzs hi
  have hl:=h.len s
  have hoa:=h.oa s
  have ho0:∀J,Heap.obj (HS s++J) m=Heap.obj J 0:=fun J=>by rw[←hl];exact qhY _ _
  have ho1:∀J,Heap.obj (HS s++J) (m+1)=Heap.obj J 1:=fun J=>by rw[←hl];exact qiJ _ _ 1
  have hp1:∀J v,Heap.put (HS s++J) (m+1) v=HS s++Heap.put J 1 v:=fun J v=>by rw[←hl];exact qiL _ _ _ 1
  simp[h1,hi,hl,hoa,ho1,hp1];refine qat (fun g => ?_) (fun g => ?_)
  ·have g':e.Legs.l[i].Account=acc:=by simpa using g
   have hy:=h.y s e e.Legs.l[i] hs he hx g'
   have hs':=h.hp s e e.Legs.l[i] hs he hx
   have hl':=h.len (f s e e.Legs.l[i])
   simp[g,h3,hl,ho0,ho1,hp1,hy,↓qzv,qAq];have e1:mvL acc f e i s e.Legs.l[i]=f s e e.Legs.l[i]:=by simp[mvL,g']
   rw[e1];refine hc _ _ _ hs' ?_;rw[←hl',qqW _ (h.cl _) rfl (by simp[Fr.keep,qae,gh,PV.refs]) (by simp[Fr.keep,qae,gh,PV.refs,hl'];have:=h.lo;omega) (by simp[Fr.keep,qae,gh,PV.refs,hl'])]
   simp[Fr.keep,gh,hl']
  ·have g':¬e.Legs.l[i].Account=acc:=by simpa using g
   simp[g,h3,hl,hp1];have e1:mvL acc f e i s e.Legs.l[i]=s:=by simp[mvL,g']
   rw[e1];refine hc _ _ _ hs ?_;rw[←hl,qqW _ (h.cl _) rfl (by simp[Fr.keep,qae,gh,PV.refs]) (by simp[Fr.keep,qae,gh,PV.refs,hl];have:=h.lo;omega) (by simp[Fr.keep,qae,gh,PV.refs,hl])]
   simp[Fr.keep,gh,hl]
theorem qDT(h:MvY Y σ HS m o pj pa j t acc P f){e:AEntry}(he:e∈j){s:σ}(hs:P s):P (qag (mvL acc f e) 0 s e.Legs.l):=by
 have key:∀(l:List ALeg) (i:Nat) (s:σ),P s→(∀x∈l,x∈e.Legs.l)→P (qag (mvL acc f e) i s l):=by
  intro l;induction l with
  |nil=>intro i s hs _;exact hs
  |cons x l ih =>
   intro i s hs hl;rw[qag];refine ih _ _ ?_ fun y hy=>hl y (zzi _ hy)
   unfold mvL;split
   ·exact h.hp s e x hs he (hl x (zzr ..))
   ·exact hs
 exact key _ _ _ hs fun _ hx=>hx
theorem qCY(T:Tab)(h:MvY Y σ HS m o pj pa j t acc P f)(hn:j.length≤maxLen)(ho:∀e∈j,e.Legs.l.length≤maxLen)(s0:σ)(hs0:P s0){k:KC (PV×Heap)}{fr:Fr}{H:Heap}
  (h0:gc [0,2,8,9,10] m ⟨fr,H⟩=⟨[(10,.d (I 0)),(9,.d (I j.length)),(8,.d (.l (K1 10) (j.map AEntry.dv) t)),(2,.p pa 0 0),(0,.h o)],HS s0⟩) :
  kC (T.envY Y) m fr H (.h (.loop [0,2,8,9,10] qno,k))=k (.exit 0) [(11,.d (.b false)),(10,.d (I j.length)),(9,.d (I j.length)),(8,.d (.l (K1 10) (j.map AEntry.dv) t)),(2,.p pa 0 0),(0,.h o)] (HS (qag (mvE acc f) 0 s0 j)):=by
 have hm:=mxl
 rw[qa3 j (fun i (s:σ)=>⟨[(10,.d (I i)),(9,.d (I j.length)),(8,.d (.l (K1 10) (j.map AEntry.dv) t)),(2,.p pa 0 0),(0,.h o)],HS s⟩) (fun _ s=>P s) (fun i s x c=>c (mvE acc f i s x)) (fun s=>k (.exit 0) [(11,.d (.b false)),(10,.d (I j.length)),(9,.d (I j.length)),(8,.d (.l (K1 10) (j.map AEntry.dv) t)),(2,.p pa 0 0),(0,.h o)] (HS s)) ?_ ?_ h0 hs0]
 ·rw[qbG (mvE acc f) _ _ (fun _ _ _ _=>rfl)]
 ·intro B _ s _;simp
 ·intro B _ i s hi hs c hc;have h1:(i:Int)<j.length:=by omega
  have h3:=wr1 (i:=i) (by omega)
  have he:j[i]∈j:=zzs hi
  have hl:=h.len s
  have ho0:∀J,Heap.obj (HS s++J) m=Heap.obj J 0:=fun J=>by rw[←hl];exact qhY _ _
  have hp0:∀J v,Heap.put (HS s++J) m v=HS s++Heap.put J 0 v:=fun J v=>by rw[←hl];exact qjL _ _ _
  have lp:=fun k fr H => @qCX Y σ HS m o pj pa j t acc P f T h j[i] he (ho _ he) i s hs k fr H
  simp[h1,hi,hl,ho0,hp0];rw[lp]
  ·simp[h3];have hs':=qDT h he hs
   have hl':=h.len (qag (mvL acc f j[i]) 0 s j[i].Legs.l)
   refine (hc _ _ _ hs' ?_).trans rfl;rw[←hl',qvk _ (h.cl _) (by simp[Fr.keep,qae,gh,PV.refs,hl'];have:=h.lo;omega)]
   simp[Fr.keep,gh]
  ·rw[←hl,qqW _ (h.cl _) rfl (by simp[Fr.keep,qae,gh,PV.refs]) (by simp[Fr.keep,qae,gh,PV.refs,hl];have:=h.lo;omega) (by simp[Fr.keep,qae,gh,PV.refs,hl])]
   simp[Fr.keep,gh,hl]
theorem qrc(T:Tab)(hT:HU T)(h:MvY Y σ HS m o pj pa j t acc P f)(hn:j.length≤maxLen)(ho:∀e∈j,e.Legs.l.length≤maxLen)(s0:σ)(hs0:P s0) :
  T.it Y 59 [.h o,.p pj 0 0,.p pa 0 0] (HS s0)=some (.t [],HS (qag (mvE acc f) 0 s0 j)):=by
 rw[qA9 T (hT 59 F59 rfl) Y rfl];have lp:=fun k fr H => @qCY Y σ HS m o pj pa j t acc P f T h hn ho s0 hs0 k fr H
 have hl:=h.len s0
 have hoj:Heap.obj (HS s0) pj=some (.box K0 (.d (.l (K1 10) (j.map AEntry.dv) t))):=by have:=h.oj s0 [];rwa [List.append_nil]at this
 simp[F59,Fr.ofArgs,hl,hoj];rw[lp]
 ·simp[qqP];rw[hl,←h.len (qag (mvE acc f) 0 s0 j)];exact qky (h.cl _) (by simp[qfT,PV.refs,PV.refsL])
 ·rw[←hl,qmp _ (h.cl _) (by simp[Fr.keep,qae,gh,PV.refs,hl];have:=h.lo;omega)]
  simp[Fr.keep,gh]
end
theorem qIr(T:Tab)(hT:HU T)(j:List AEntry)(t:Bool)(acc:Int)(k0:K)(v0:DV):T.ref 50 [.d (.l (K1 10) (j.map AEntry.dv) t),.d (I acc)] [some (.box k0 (.d v0))]=some (.f 59 [.p 1 0 0,.p 2 0 0],[some (.box k0 (.d v0)),some (.box K0 (.d (.l (K1 10) (j.map AEntry.dv) t))),some (.box K0 (.d (I acc)))]):=by
 rw[qeJ T (hT 50 F50 rfl) rfl];simp[F50,Fr.ofArgs,qbQ,gcV,qaf,qad,qai,Obj.refs,PV.refs,PV.refsL,qaj,gcH,PV.ren,PV.renL,Obj.ren,Heap.obj,zzd]
def qkB(j:List AEntry)(t:Bool)(acc:Int)(s:Int):Heap:=[some (.box K0 (.d (I s))),some (.box K0 (.d (.l (K1 10) (j.map AEntry.dv) t))),some (.box K0 (.d (I acc))),some (.lp 0 none),some .df]
def fOf(s:Int)(_:AEntry)(x:ALeg):Int:=w64 (s-x.Amount)
def ofP(j:List AEntry)(acc:Int):Int:=qag (mvE acc fOf) 0 0 j
theorem qDV(T:Tab)(_hT:HU T)(j:List AEntry)(t:Bool)(acc:Int):MvY (qiN T.env qpM qpN [(5,.p 0 0 0)] 3 [11,12]) Int (qkB j t acc) 5 3 1 2 j t acc (fun _=>True) fOf where
 len _:=rfl
 cl _:=by intro r h;simp[qkB,qad,qai,Obj.refs,PV.refs]at h
 oj _ _:=rfl
 oa _ _:=rfl
 lo:=⟨by decide,by decide,by decide⟩
 hp _ _ _ _ _ _:=trivial
 y s e x _ _ _ _:=by
  rw[qs2 rfl rfl];simp[qpM,qpN,qkB,qgq];exact qky (H:=qkB j t acc (fOf s e x)++[some (.box (K1 10) (.d e.dv)),some (.box (K1 3) (.d x.dv))]) (by intro r h;simp[qkB,qad,qai,Obj.refs,PV.refs]at h) (v:=.d (.b true)) (by simp[PV.refs])
theorem qyH(T:Tab)(hT:HU T)(l:List AEntry)(t:Bool)(acc:Int)(hn:l.length≤maxLen)(ho:∀e∈l,e.Legs.l.length≤maxLen):T.val 715 [.l (K1 10) (l.map AEntry.dv) t,I acc]=some (.d (I (ofP l acc)),false):=by
 rw[qab T (hT 715 qlC rfl) rfl];have e:=qIr T hT l t acc K0 (I 0)
 have e2:=qrc T hT (qDV T hT l t acc) hn ho 0 trivial
 simp[qlC,Fr.ofArgs,e,↓qrd,↓qs3,qqD,Fr.only];refine (congrArg (fun z=>bo z _) e2).trans ?_
 simp[qkN,qkB,fin,runG];rfl
theorem qiS(a b:Int):w64 (w64 a+b)=w64 (a+b):=by
 unfold w64;rw[IntKind.wrap_i64,IntKind.wrap_i64,IntKind.wrap_i64];omega
theorem qty(a b:Int):w64 (a+w64 b)=w64 (a+b):=by rw[Int.add_comm,qiS,Int.add_comm]
theorem qkY(a:Int):w64 (w64 a)=w64 a:=by have:=qiS a 0;simpa using this
theorem qou(acc s:Int):∀(l:List ALeg) (i:Nat) (d:Int),qag (qbI acc) i (w64 (s+d)) l=w64 (s+qag (qbI acc) i (w64 d) l)
 | [],i,d=>by simp only[qag];rw[qty]
 |x::l,i,d=>by
  simp only[qag];by_cases h:(x.Account==acc)=true
  ·have e1:qbI acc i (w64 (s+d)) x=w64 (s+(d-x.Amount)):=by
    simp only[qbI,h,if_true,Int.sub_eq_add_neg,qiS,Int.add_assoc]
   have e2:qbI acc i (w64 d) x=w64 (d-x.Amount):=by
    simp only[qbI,h,if_true,Int.sub_eq_add_neg,qiS]
   rw[e1,e2,qou acc s l (i+1)]
  ·have e1:qbI acc i (w64 (s+d)) x=w64 (s+d):=by simp only[qbI,if_neg h]
   have e2:qbI acc i (w64 d) x=w64 d:=by simp only[qbI,if_neg h]
   rw[e1,e2,qou acc s l (i+1)]
theorem qwH(acc:Int)(e:AEntry):∀(l:List ALeg) (i:Nat) (s:Int),qag (mvL acc fOf e) i s l=qag (qbI acc) i s l
 | [],_,_=>rfl
 |x::l,i,s=>by
  have:mvL acc fOf e i s x=qbI acc i s x:=by by_cases h:x.Account=acc<;>simp[mvL,qbI,fOf,h]
  rw[qag,qag,this,qwH acc e l]
theorem qwY(acc:Int):∀(l:List AEntry) (i:Nat) (n:Int),w64 n=n→qag (mvE acc fOf) i n l=qag (qhR acc) i n l
 | [],_,_,_=>rfl
 |e::l,i,n,h=>by
  have e1:mvE acc fOf i n e=qhR acc i n e:=by
   unfold mvE qhR qhn;rw[qwH]
   have:=qou acc n e.Legs.l 0 0
   rw[Int.add_zero,h,show w64 0=0 from rfl]at this
   exact this
  rw[qag,qag,e1];exact qwY acc l (i+1) _ (qkY _)
theorem qwX(l:List AEntry)(acc:Int):ofP l acc=ofR l acc:=qwY acc l 0 0 rfl
def qgO(b:ABooks)(id day:Int):Int×Int:=if (qgU b id day).2=0 then (w64 (w64 (w64 (ofR b.Journal.l id-(qgU b id day).1)-qmt b.Holds.l id day)-qmW b.Blocks.l id day),0)else (0,(qgU b id day).2)
theorem qKY(T:Tab)(hT:HU T)(b:ABooks)(id day:Int)(hb:b.ok)(hbl:b.Blocks.l.length≤100000):T.val 634 [b.dv,I id,I day]=some (.t [.d (I (qgO b id day).1),.d (I (qgO b id day).2)],false):=by
 rw[qab T (hT 634 qlA rfl) rfl];have e1:=qK4 T hT b id day hb
 have e2:=qyH T hT b.Journal.l b.Journal.t id (hb.2.2.2.2.2.2.1).1 (fun e he=>((hb.2.2.2.2.2.2.1).2 e he).2.2.2.2.2.2.2.2.1.1)
 rw[qwX]at e2;have e3:=qK3 T hT b.Holds.l b.Holds.t id day (hb.2.2.2.2.2.2.2.1).1
 have e4:=qK5 T hT b.Blocks.l b.Blocks.t id day hbl
 unfold qgO;generalize qgU b id day=fl at e1⊢;simp[qlA,Fr.ofArgs,e1];repeat' (refine qat (fun h => ?_) (fun h => ?_)<;>(try simp at h)<;>(try simp[h,e2,e3,e4]))
 all_goals simp_all[w64]
theorem qJy(T:Tab)(hT:HU T)(b:ABooks)(id day:Int)(hb:b.ok)(hbl:b.Blocks.l.length≤100000):T.val 1022 [b.dv,I id,I day]=some (.t [.d (I (qgO b id day).1),.d (I (qgO b id day).2)],false):=by
 rw[qab T (hT 1022 qk4 rfl) rfl];have e1:=qJA T hT b id day hb
 have e2:=qx9 T hT b.Journal.l b.Journal.t id (hb.2.2.2.2.2.2.1).1 (hb.2.2.2.2.2.2.1).2
 have e3:=qJB T hT b.Holds.l b.Holds.t id day (hb.2.2.2.2.2.2.2.1).1
 have e4:=qJC T hT b.Blocks.l b.Blocks.t id day hbl
 unfold qgO;generalize qgU b id day=fl at e1⊢;simp[qk4,Fr.ofArgs,e1];repeat' (refine qat (fun h => ?_) (fun h => ?_)<;>(try simp at h)<;>(try simp[h,e2,e3,e4]))
 all_goals simp_all[w64]
theorem qz6(l:List DV):DV.cells (.a l)=l:=rfl
theorem qIs(T:Tab)(hT:HU T)(j:List AEntry)(t:Bool)(acc:Int)(k0 k1 k2 k3:K)(v0 v1 v2 v3:DV):T.ref 50 [.d (.l (K1 10) (j.map AEntry.dv) t),.d (I acc)] [some (.box k0 (.d v0)),some (.box k1 (.d v1)),some (.box k2 (.d v2)),some (.box k3 (.d v3))]=some (.f 59 [.p 4 0 0,.p 5 0 0],[some (.box k0 (.d v0)),some (.box k1 (.d v1)),some (.box k2 (.d v2)),some (.box k3 (.d v3)),some (.box K0 (.d (.l (K1 10) (j.map AEntry.dv) t))),some (.box K0 (.d (I acc)))]):=by
  rw[qeJ T (hT 50 F50 rfl) rfl];simp[F50,Fr.ofArgs,qbQ,gcV,qaf,qad,qai,Obj.refs,PV.refs,PV.refsL,qaj,gcH,PV.ren,PV.renL,Obj.ren,Heap.obj,zzd]
abbrev DC:=Int×Int
def fTo(frm upto:Int)(s:DC)(e:AEntry)(x:ALeg):DC:=if e.Booked<frm∨upto<e.Booked then s else if 0<x.Amount then (w64 (s.1+x.Amount),s.2)else (s.1,w64 (s.2-x.Amount))
def qhj(frm upto:Int)(j:List AEntry)(t:Bool)(acc:Int)(s:DC):Heap:=[some (.box K0 (.d (I frm))),some (.box K0 (.d (I upto))),some (.box K0 (.d (I s.1))),some (.box K0 (.d (I s.2))),some (.box K0 (.d (.l (K1 10) (j.map AEntry.dv) t))),some (.box K0 (.d (I acc))),some (.lp 0 none),some .df]
theorem qDW(T:Tab)(_hT:HU T)(frm upto:Int)(j:List AEntry)(t:Bool)(acc:Int):MvY (qiN T.env qpS qpT [(11,.p 3 0 0),(10,.p 2 0 0),(7,.p 1 0 0),(6,.p 0 0 0)] 6 [17,18]) DC (qhj frm upto j t acc) 8 6 4 5 j t acc (fun _=>True) (fTo frm upto) where
  len _:=rfl
  cl _:=by intro r h;simp[qhj,qad,qai,Obj.refs,PV.refs]at h
  oj _ _:=rfl
  oa _ _:=rfl
  lo:=⟨by decide,by decide,by decide⟩
  hp _ _ _ _ _ _:=trivial
  y s e x _ _ _ _:=by
    rw[qs2 rfl rfl];simp[qpS,qpT,qhj,qgq];repeat' (refine qat (fun h => ?_) (fun h => ?_)<;>(try simp at h)<;>(try simp[h]))
    all_goals first
      | (have ef:fTo frm upto s e x=s:=by rw[fTo,if_pos (by omega)]
         rw[ef];exact qky (H:=qhj frm upto j t acc s++[some (.box (K1 10) (.d e.dv)),some (.box (K1 3) (.d x.dv))]) (by intro r h;simp[qhj,qad,qai,Obj.refs,PV.refs]at h) (v:=.d (.b true)) (by simp[PV.refs]))
      | (have ef:fTo frm upto s e x=(w64 (s.1+x.Amount),s.2):=by rw[fTo,if_neg (by omega),if_pos (by omega)]
         rw[ef];exact qky (H:=qhj frm upto j t acc (w64 (s.1+x.Amount),s.2)++[some (.box (K1 10) (.d e.dv)),some (.box (K1 3) (.d x.dv))]) (by intro r h;simp[qhj,qad,qai,Obj.refs,PV.refs]at h) (v:=.d (.b true)) (by simp[PV.refs]))
      | (have ef:fTo frm upto s e x=(s.1,w64 (s.2-x.Amount)):=by rw[fTo,if_neg (by omega),if_neg (by omega)]
         rw[ef];exact qky (H:=qhj frm upto j t acc (s.1,w64 (s.2-x.Amount))++[some (.box (K1 10) (.d e.dv)),some (.box (K1 3) (.d x.dv))]) (by intro r h;simp[qhj,qad,qai,Obj.refs,PV.refs]at h) (v:=.d (.b true)) (by simp[PV.refs]))
theorem qLl(T:Tab)(hT:HU T)(hV:HV T)(l:List AEntry)(t:Bool)(acc frm upto:Int)(hn:l.length≤maxLen)(ho:∀e∈l,e.Legs.l.length≤maxLen):T.val 882 [.l (K1 10) (l.map AEntry.dv) t,I acc,I frm,I upto]=some (.t [.d (I (qag (mvE acc (fTo frm upto)) 0 (0,0) l).1),.d (I (qag (mvE acc (fTo frm upto)) 0 (0,0) l).2)],false):=by
  rw[qab T (hV 882 qlI rfl) rfl];have e:=qIs T hT l t acc K0 K0 K0 K0 (I frm) (I upto) (I 0) (I 0)
  have e2:=qrc T hT (qDW T hT frm upto l t acc) hn ho (0,0) trivial
  simp[qlI,Fr.ofArgs,e,↓qrd,↓qs3,qqD,Fr.only];refine (congrArg (fun z=>bo z _) e2).trans ?_
  simp[qkN,qhj,fin,runG,↓qbJ,↓qbT,↓qbx,↓qbt,qby,↓qbw,↓qbv,qbe,writeS,touchS,qaD,qa4,chg,qbm,qbb,qaY,qbc,PV.refs,IOp.okD,Nat.testBit];try rfl
def fTr(acc:Int)(_:Nat)(s:DC)(x:ALeg):DC:=if x.Account=acc∧0<x.Amount then (w64 (s.1+x.Amount),s.2)else if x.Account=acc∧x.Amount<0 then (s.1,w64 (s.2-x.Amount))else s
def fTR(acc frm upto:Int)(_:Nat)(s:DC)(e:AEntry):DC:=if e.Booked<frm∨upto<e.Booked then s else qag (fTr acc) 0 s e.Legs.l
def qhx(j:List AEntry)(acc frm upto:Int):DC:=qag (fTR acc frm upto) 0 (0,0) j
theorem qCq(T:Tab)(l:List AEntry)(t:Bool)(acc frm upto:Int)(s0:DC)(oi:Nat)(hoi:oi<l.length)(hn:l[oi].Legs.l.length≤maxLen){k:KC (PV×Bool)}{fr:Fr}{H:Heap}(h0:gc [0,1,2,3,10,11,12,13] 0 ⟨fr,H⟩=⟨[(13,(.d (I (0:Int)))),(12,(.d (I oi))),(11,(.d (I s0.2))),(10,(.d (I s0.1))),(3,(.d (I upto))),(2,(.d (I frm))),(1,(.d (I acc))),(0,(.d (.l (K1 10) (l.map AEntry.dv) t)))],[]⟩) :
    kC T.env 0 fr H (.h (.loop [0,1,2,3,10,11,12,13] qpn,k))=k (.exit 2) [(44,.d (.b false)),(13,(.d (I (l[oi].Legs.l.length:Int)))),(12,(.d (I oi))),(11,(.d (I (qag (fTr acc) 0 s0 l[oi].Legs.l).2))),(10,(.d (I (qag (fTr acc) 0 s0 l[oi].Legs.l).1))),(3,(.d (I upto))),(2,(.d (I frm))),(1,(.d (I acc))),(0,(.d (.l (K1 10) (l.map AEntry.dv) t)))] []:=by
  rw[qa3 l[oi].Legs.l (fun i (b:DC)=>⟨[(13,(.d (I (i:Int)))),(12,(.d (I oi))),(11,(.d (I b.2))),(10,(.d (I b.1))),(3,(.d (I upto))),(2,(.d (I frm))),(1,(.d (I acc))),(0,(.d (.l (K1 10) (l.map AEntry.dv) t)))],[]⟩) (fun _ _=>True) (fun i b x c=>c (fTr acc i b x)) (fun b=>k (.exit 2) [(44,.d (.b false)),(13,(.d (I (l[oi].Legs.l.length:Int)))),(12,(.d (I oi))),(11,(.d (I b.2))),(10,(.d (I b.1))),(3,(.d (I upto))),(2,(.d (I frm))),(1,(.d (I acc))),(0,(.d (.l (K1 10) (l.map AEntry.dv) t)))] []) ?_ ?_ (b0:=s0) h0 trivial]
  · rw[qbG (fTr acc) _ _ (fun _ _ _ _=>rfl)]
  · intro B _ b _
    have hoi2:(oi:Int)<l.length:=by omega
    simp[hoi,hoi2]
  · intro B _ i b hi _ c hc
    have hm:=mxl
    have h1:(i:Int)<l[oi].Legs.l.length:=by omega
    have h3:=wr1 (i:=i) (by omega)
    have hoi2:(oi:Int)<l.length:=by omega
    simp[h1,hi,hoi,hoi2];repeat' (refine qat (fun h => ?_) (fun h => ?_)<;>(try simp at h)<;>(try simp[h,h3]))
    all_goals first
      | (exfalso;omega)
      | (have e:fTr acc i b l[oi].Legs.l[i]=(w64 (b.1+l[oi].Legs.l[i].Amount),b.2):=by rw[fTr,if_pos (by omega)]
         rw[e];exact hc _ _ _ trivial (by simp[gc,Fr.keep,qaf,qae,qad,PV.refs,gcH,PV.ren,Obj.ren,Heap.obj,Fr.ren,gh,w64];try rfl))
      | (have e:fTr acc i b l[oi].Legs.l[i]=(b.1,w64 (b.2-l[oi].Legs.l[i].Amount)):=by rw[fTr,if_neg (by omega),if_pos (by omega)]
         rw[e];exact hc _ _ _ trivial (by simp[gc,Fr.keep,qaf,qae,qad,PV.refs,gcH,PV.ren,Obj.ren,Heap.obj,Fr.ren,gh,w64];try rfl))
      | (have e:fTr acc i b l[oi].Legs.l[i]=b:=by rw[fTr,if_neg (by omega),if_neg (by omega)]
         rw[e];exact hc _ _ _ trivial (by simp[gc,Fr.keep,qaf,qae,qad,PV.refs,gcH,PV.ren,Obj.ren,Heap.obj,Fr.ren,gh];try rfl))
theorem qCr(T:Tab)(l:List AEntry)(t:Bool)(acc frm upto:Int)(hn:l.length≤maxLen)(ho:∀e∈l,e.Legs.l.length≤maxLen){k:KC (PV×Bool)}{fr:Fr}{H:Heap}(h0:gc [0,1,2,3,10,11,12] 0 ⟨fr,H⟩=⟨[(12,(.d (I (0:Int)))),(11,(.d (I (0,0).2))),(10,(.d (I (0,0).1))),(3,(.d (I upto))),(2,(.d (I frm))),(1,(.d (I acc))),(0,(.d (.l (K1 10) (l.map AEntry.dv) t)))],[]⟩) :
    kC T.env 0 fr H (.h (.loop [0,1,2,3,10,11,12] qng,k))=k (.exit 0) [(18,.d (.b false)),(12,(.d (I (l.length:Int)))),(11,(.d (I (qag (fTR acc frm upto) 0 (0,0) l).2))),(10,(.d (I (qag (fTR acc frm upto) 0 (0,0) l).1))),(3,(.d (I upto))),(2,(.d (I frm))),(1,(.d (I acc))),(0,(.d (.l (K1 10) (l.map AEntry.dv) t)))] []:=by
  rw[qa3 l (fun i (b:DC)=>⟨[(12,(.d (I (i:Int)))),(11,(.d (I b.2))),(10,(.d (I b.1))),(3,(.d (I upto))),(2,(.d (I frm))),(1,(.d (I acc))),(0,(.d (.l (K1 10) (l.map AEntry.dv) t)))],[]⟩) (fun _ _=>True) (fun i b x c=>c (fTR acc frm upto i b x)) (fun b=>k (.exit 0) [(18,.d (.b false)),(12,(.d (I (l.length:Int)))),(11,(.d (I b.2))),(10,(.d (I b.1))),(3,(.d (I upto))),(2,(.d (I frm))),(1,(.d (I acc))),(0,(.d (.l (K1 10) (l.map AEntry.dv) t)))] []) ?_ ?_ (b0:=(0,0)) h0 trivial]
  · rw[qbG (fTR acc frm upto) _ _ (fun _ _ _ _=>rfl)]
  · intro B _ b _
    simp
  · intro B _ i b hi _ c hc
    have hm:=mxl
    have h1:(i:Int)<l.length:=by omega
    have h3:=wr1 (i:=i) (by omega)
    simp[h1,hi];repeat' (refine qat (fun h => ?_) (fun h => ?_)<;>(try simp at h)<;>(try simp[h,h1,hi,h3]))
    all_goals try
      ((have e:fTR acc frm upto i b l[i]=b:=by rw[fTR,if_pos (by omega)]
        rw[e];exact hc _ _ _ trivial (by simp[gc,Fr.keep,qaf,qae,qad,PV.refs,gcH,PV.ren,Obj.ren,Heap.obj,Fr.ren,gh];try rfl)))
    have e:fTR acc frm upto i b l[i]=qag (fTr acc) 0 b l[i].Legs.l:=by rw[fTR,if_neg (by omega)]
    rw[e];have lp:=fun k fr H => @qCq T l t acc frm upto b i hi (ho _ (zzs hi)) k fr H
    rw[lp]
    · simp[h3]
      exact hc _ _ _ trivial (by simp[gc,Fr.keep,qaf,qae,qad,PV.refs,gcH,PV.ren,Obj.ren,Heap.obj,Fr.ren,gh])
    · simp[gc,Fr.keep,qaf,qae,qad,PV.refs,gcH,PV.ren,Obj.ren,Heap.obj,Fr.ren,gh]
theorem qJH(T:Tab)(hV:HV T)(l:List AEntry)(t:Bool)(acc frm upto:Int)(hn:l.length≤maxLen)(ho:∀e∈l,e.Legs.l.length≤maxLen):T.val 1035 [.l (K1 10) (l.map AEntry.dv) t,I acc,I frm,I upto]=some (.t [.d (I (qhx l acc frm upto).1),.d (I (qhx l acc frm upto).2)],false):=by
  rw[qab T (hV 1035 F1035 rfl) rfl];have lp:=fun k fr H => @qCr T l t acc frm upto hn ho k fr H
  simp[F1035,Fr.ofArgs];refine (lp _ _ _ (by simp[gc,Fr.keep,qaf,qae,qad,PV.refs,gcH,PV.ren,Obj.ren,Heap.obj,Fr.ren,gh])).trans ?_
  simp[qhx]
theorem qn0{acc:Int}{i:Nat}{s:DC}{x:ALeg}(h1:w64 s.1=s.1)(h2:w64 s.2=s.2):w64 (fTr acc i s x).1=(fTr acc i s x).1∧w64 (fTr acc i s x).2=(fTr acc i s x).2:=by
  unfold fTr;split
  · exact⟨qkY _,h2⟩
  · split
    · exact⟨h1,qkY _⟩
    · exact⟨h1,h2⟩
theorem qu8{acc:Int}:∀(l:List ALeg) (i:Nat) (s:DC),w64 s.1=s.1→w64 s.2=s.2→w64 (qag (fTr acc) i s l).1=(qag (fTr acc) i s l).1∧w64 (qag (fTr acc) i s l).2=(qag (fTr acc) i s l).2
  | [],_,_,h1,h2=>⟨h1,h2⟩
  |x::l,i,s,h1,h2=>by rw[qag];exact qu8 l _ _ (qn0 h1 h2).1 (qn0 h1 h2).2
theorem qsw(acc frm upto:Int)(e:AEntry):∀(l:List ALeg) (i:Nat) (s:DC),w64 s.1=s.1→w64 s.2=s.2→qag (mvL acc (fTo frm upto) e) i s l=if e.Booked<frm∨upto<e.Booked then s else qag (fTr acc) i s l
  | [],_,s,_,_=>by simp[qag]
  |x::l,i,s,h1,h2=>by
    by_cases h:e.Booked<frm∨upto<e.Booked
    · have e1:mvL acc (fTo frm upto) e i s x=s:=by unfold mvL fTo;split<;>simp
      rw[qag,e1,qsw acc frm upto e l _ _ h1 h2,if_pos h,if_pos h]
    · have e1:mvL acc (fTo frm upto) e i s x=fTr acc i s x:=by
        unfold mvL fTo fTr;rw[if_neg h];by_cases ha:x.Account=acc
        · rw[if_pos ha]
          by_cases hp:0<x.Amount
          · rw[if_pos hp,if_pos ⟨ha,hp⟩]
          · rw[if_neg hp,if_neg (by omega)]
            by_cases hm:x.Amount<0
            · rw[if_pos ⟨ha,hm⟩]
            · rw[if_neg (by omega),show x.Amount=0 by omega,Int.sub_zero,h2]
        · rw[if_neg ha,if_neg (fun q=>ha q.1),if_neg (fun q=>ha q.1)]
      rw[qag,e1,qsw acc frm upto e l _ _ (qn0 h1 h2).1 (qn0 h1 h2).2,if_neg h,if_neg h,qag]
theorem qx2(acc frm upto:Int):∀(l:List AEntry) (i:Nat) (s:DC),w64 s.1=s.1→w64 s.2=s.2→qag (mvE acc (fTo frm upto)) i s l=qag (fTR acc frm upto) i s l
  | [],_,_,_,_=>rfl
  |e::l,i,s,h1,h2=>by
    have e1:mvE acc (fTo frm upto) i s e=fTR acc frm upto i s e:=by
      unfold mvE fTR;exact qsw acc frm upto e _ _ _ h1 h2
    have q:w64 (fTR acc frm upto i s e).1=(fTR acc frm upto i s e).1∧w64 (fTR acc frm upto i s e).2=(fTR acc frm upto i s e).2:=by
      unfold fTR;split
      · exact⟨h1,h2⟩
      · exact qu8 _ _ _ h1 h2
    rw[qag,qag,e1];exact qx2 acc frm upto l (i+1) _ q.1 q.2
theorem qLm(T:Tab)(hT:HU T)(hV:HV T)(l:List AEntry)(t:Bool)(acc frm upto:Int)(hn:l.length≤maxLen)(ho:∀e∈l,e.Legs.l.length≤maxLen):T.val 882 [.l (K1 10) (l.map AEntry.dv) t,I acc,I frm,I upto]=some (.t [.d (I (qhx l acc frm upto).1),.d (I (qhx l acc frm upto).2)],false):=by
  rw[qLl T hT hV l t acc frm upto hn ho,qx2 acc frm upto l 0 (0,0) rfl rfl];rfl
def qbr(s:Int):List Int→List Int
 | []=>[]
 |x::r=>w64 (s+x)::qbr (w64 (s+x)) r
def qbn:Nat→Int→List Int→List Int
 | _,_,[]=>[]
 | 0,n,x::r=>w64 (x+n)::qbn 0 n r
 |k+1,n,x::r=>x::qbn k n r
theorem qoH:∀(l:List Int) (s:Int),(qbr s l).length=l.length
 | [],_=>rfl
 |x::l,s=>by simp[qbr,qoH l]
theorem qnB:∀(l:List Int) (k:Nat) (n:Int),(qbn k n l).length=l.length
 | [],_,_=>rfl
 |x::l,0,n=>by simp[qbn,qnB l]
 |x::l,k+1,n=>by simp[qbn,qnB l]
theorem qxi:∀(l:List Int) (s a:Int),qbr (w64 (s+a)) l=qbn 0 a (qbr s l)
 | [],_,_=>rfl
 |x::l,s,a=>by
  have e:w64 (w64 (s+a)+x)=w64 (w64 (s+x)+a):=by rw[qiS,qiS];congr 1;omega
  simp only[qbr,qbn];rw[e,qxi l]
theorem qxh:∀(l:List Int) (k:Nat) (s a:Int) (h:k<l.length),qbr s (l.set k (w64 (l[k]+a)))=qbn k a (qbr s l)
 | [],_,_,_,h=>absurd h (by simp)
 |x::l,0,s,a,_=>by
  have e:w64 (s+w64 (x+a))=w64 (w64 (s+x)+a):=by rw[qiS,qty];congr 1;omega
  simp only[List.set_cons_zero,List.getElem_cons_zero,qbr,qbn];rw[e,qxi]
 |x::l,k+1,s,a,h=>by
  simp only[List.set_cons_succ,zzG,qbr,qbn];rw[qxh l k _ a (by simpa using h)]
theorem qp1:∀(l:List Int) (k:Nat) (a b:Int),qbn k a (qbn k b l)=qbn k (w64 (b+a)) l
 | [],_,_,_=>rfl
 |x::l,0,a,b=>by
  simp only[qbn];rw[qp1 l,qiS,qty,Int.add_assoc]
 |x::l,k+1,a,b=>by simp only[qbn];rw[qp1 l]
theorem qnC:∀(l:List Int) (k:Nat),(∀x∈l,w64 x=x)→qbn k 0 l=l
 | [],_,_=>rfl
 |x::l,0,h=>by simp only[qbn,Int.add_zero];rw[qnC l 0 fun y hy=>h y (zzi _ hy),h x (zzr ..)]
 |x::l,k+1,h=>by simp only[qbn];rw[qnC l k fun y hy=>h y (zzi _ hy)]
theorem qp3:∀(l:List Int) (k:Nat) (a:Int),(∀x∈l,w64 x=x)→∀x∈qbn k a l,w64 x=x
 | [],_,_,_,x,hx=>by simp[qbn]at hx
 |y::l,0,a,h,x,hx=>by
  simp only[qbn,List.mem_cons]at hx;rcases hx with rfl|hx
  ·exact qkY _
  ·exact qp3 l 0 a (fun z hz=>h z (zzi _ hz)) x hx
 |y::l,k+1,a,h,x,hx=>by
  simp only[qbn,List.mem_cons]at hx;rcases hx with rfl|hx
  ·exact h _ (zzr ..)
  ·exact qp3 l k a (fun z hz=>h z (zzi _ hz)) x hx
theorem qp2:∀(l:List Int) (k:Nat) (a:Int),l.length≤k→qbn k a l=l
 | [],_,_,_=>rfl
 |x::l,0,a,h=>by simp at h
 |x::l,k+1,a,h=>by simp only[qbn];rw[qp2 l k a (by simpa using h)]
theorem qxj:∀n,qbr 0 (List.replicate n 0)=List.replicate n 0
 | 0=>rfl
 |n+1=>by simp only[List.replicate_succ,qbr];rw[show w64 (0+0)=0 from rfl,qxj n]
def qcc:Nat→Nat→Int→List Int→List Int
 | _,_,_,[]=>[]
 | 0,0,_,l=>l
 | 0,i+1,n,x::r=>w64 (x+n)::qcc 0 i n r
 |k+1,i,n,x::r=>x::qcc k i n r
theorem qnD:∀(l:List Int) (k:Nat) (n:Int),qcc k 0 n l=l
 | [],k,n=>by cases k<;>rfl
 |x::l,0,n=>rfl
 |x::l,k+1,n=>by simp only[qcc];rw[qnD l]
theorem qje:∀(l:List Int) (k i:Nat) (n:Int),(qcc k i n l).length=l.length
 | [],k,i,n=>by cases k<;>cases i<;>rfl
 |x::l,0,0,n=>rfl
 |x::l,0,i+1,n=>by simp[qcc,qje l]
 |x::l,k+1,i,n=>by simp[qcc,qje l]
theorem qp5:∀(l:List Int) (k i:Nat) (n:Int) (h:k+i<(qcc k i n l).length),(qcc k i n l).set (k+i) (w64 ((qcc k i n l)[k+i]+n))=qcc k (i+1) n l
 | [],k,i,n,h=>by rw[qje]at h;simp at h
 |x::l,0,0,n,h=>by simp[qcc,qnD]
 |x::l,0,i+1,n,h=>by
  have ih:=qp5 l 0 i n (by rw[qje]at h⊢;simp at h;omega)
  have e:0+(i+1)=(0+i)+1:=by omega
  simp only[qcc,e,List.set_cons_succ,zzG];rw[ih]
 |x::l,k+1,i,n,h=>by
  have ih:=qp5 l k i n (by rw[qje]at h⊢;simp at h;omega)
  have e:k+1+i=(k+i)+1:=by omega
  simp only[qcc,e,List.set_cons_succ,zzG];rw[ih]
theorem qp4:∀(l:List Int) (k i:Nat) (n:Int),l.length=k+i→qcc k i n l=qbn k n l
 | [],k,i,n,h=>by cases k<;>cases i<;>rfl
 |x::l,0,0,n,h=>by simp at h
 |x::l,0,i+1,n,h=>by simp only[qcc,qbn];rw[qp4 l 0 i n (by simp at h;omega)]
 |x::l,k+1,i,n,h=>by simp only[qcc,qbn];rw[qp4 l k i n (by simp at h;omega)]
def psP(s:Int):Nat→List Int→List Int
 | _,[]=>[]
 | 0,l=>l
 |i+1,x::r=>w64 (s+x)::psP (w64 (s+x)) i r
theorem qoG:∀(l:List Int) (s:Int) (i:Nat),(psP s i l).length=l.length
 | [],s,i=>by cases i<;>rfl
 |x::l,s,0=>rfl
 |x::l,s,i+1=>by simp[psP,qoG l]
theorem qxe:∀(l:List Int) (s:Int) (i:Nat),l.length≤i→psP s i l=qbr s l
 | [],s,i,_=>by cases i<;>rfl
 |x::l,s,0,h=>by simp at h
 |x::l,s,i+1,h=>by simp only[psP,qbr];rw[qxe l _ i (by simpa using h)]
theorem qxd(l:List Int)(s:Int):psP s 0 l=l:=by cases l<;>rfl
theorem qxf:∀(l:List Int) (s:Int) (i:Nat) (h:i+1<(psP s (i+1) l).length),(psP s (i+1) l).set (i+1) (w64 ((psP s (i+1) l)[i+1]+(psP s (i+1) l)[i]))=psP s (i+2) l
 | [],s,i,h=>by simp[psP]at h
 | [x],s,i,h=>by simp[qoG]at h
 |x::y::l,s,0,h=>by
  simp only[psP,List.set_cons_succ,List.set_cons_zero,zzG,List.getElem_cons_zero,qxd];rw[show w64 (y+w64 (s+x))=w64 (w64 (s+x)+y)by rw[Int.add_comm]]
 |x::y::l,s,i+1,h=>by
  have ih:=qxf (y::l) (w64 (s+x)) i (by rw[qoG]at h⊢;simp at h⊢;omega)
  have a:psP s (i+1+1) (x::y::l)=w64 (s+x)::psP (w64 (s+x)) (i+1) (y::l):=rfl
  have b:psP s (i+1+2) (x::y::l)=w64 (s+x)::psP (w64 (s+x)) (i+2) (y::l):=rfl
  simp only[a,b,List.set_cons_succ,zzG];exact congrArg _ ih
theorem qIa(l:List Int)(h:∀x∈l,w64 x=x):psP 0 1 l=l:=by
 cases l with
 |nil=>rfl
 |cons x r=>simp only[psP,Int.zero_add,qxd];rw[h x (zzr ..)]
end
end Go.Sim
