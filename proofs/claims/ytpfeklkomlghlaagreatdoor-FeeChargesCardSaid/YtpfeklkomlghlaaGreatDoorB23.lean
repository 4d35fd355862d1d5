/- Part 23 of the proof. -/
import Derived.Test.YtpfeklkomlghlaaGreatDoorB22
set_option linter.all false
namespace Go.Sim
set_option maxRecDepth 100000
set_option maxHeartbeats 8000000
section
attribute [local simp ↓] qgR qgP qgH qgQ qgE qgI qgF qgG sqK blK lpK qgW qgU qgS qgV qgT qgy qgA qhA qf9 qf7 qf8 qge qfB qfC qfl qfo qfA qfE qfn qfF qfu qfw qfx qfy qfD qfz qfm qfp qfq qfr qfv qf5 qf2 qfI qfH qfQ qfJ qdn qdT qfK qfL qgY qeX qgX qhv qe6 qfX qfY qfR qfT qfS qeN qf6 qeO qfN qf1 qfV qfU qfP qfO qf0 qf3 qfM qfZ qgz qeM qe5 qgo qg9 qcF qgp qeP qeQ qf4 qdh qhu qfs qga qgb qg2 qhw qgZ qgJ qgK qgL qgM qgN qgO qft qgn qeL qiM qiN qiK qiL qiI qhS qiS qiO qjq qiP qjG qkq qfW
attribute [local simp] qcD qg4 qg5 qgu qgv qgj qgk qhs qht qgr qgs rd IOp.adds qar gh nid rgK rdS qgw qgx qha qhb qhf qhg qhj qhe qhi qhh qfg qfe qff qhd qhc qgm qgl qhl qhk qhm qhn qgq qhZ qh0 qds qia qbL qif qjz qi8 qjy qjx
section
def qRJ(T:Tab)(hV:HV T)(n:Int):T.val 884 [I n]=some (.d (.a [I 2,I n]),false):=by rw[qab T (hV 884 ql4 rfl) rfl];simp[ql4,Fr.Aa,qak,qam,qal,qaj,putAt,mkA,qai]
def qRK(T:Tab)(hV:HV T)(n:Int):T.val 885 [I n]=some (.d (.a [I 1,I n]),false):=by rw[qab T (hV 885 ql5 rfl) rfl];simp[ql5,Fr.Aa,qak,qam,qal,qaj,putAt,mkA,qai]
def wth(n b:Int):CO:=decide (-b<=n)&&decide (n<=b)
def V2(p:Int×Int):DV:=.a [I p.1,I p.2]
abbrev MA:Int:=1000000000000
noncomputable def qiH(b:Af)(a:AB)(id day amount:Int):CE:=[ofR b.Bc.l id,qeZ (dly b.Bc.l id (max (mst day) a.BQ) day),(qjI b.Bc.l id (mst day) day).1,amount]
noncomputable def qbI(b:Af)(id day amount:Int):CL (Int×Int)×Int:=match qdG b id with
 |none=>([],11)
 |some a=>if (qaZ day&&qkl b id day)=true then (if ((qiH b a id day amount).all λn=>wth n MA)=true then ((qiH b a id day amount).map (λn=>(2,n))++[(1,qiX b.Bc.l id (mst day) day),(1,w64 (day-a.BQ)),(4,day)],0)else ([],6))else ([],16)
attribute [local simp ↓ 2000] qyZ
def qJN(T:Tab)(a:AB)(day amount _frm now low vol cnt:Int)(l:CE)(hn:l.length<=maxLen){k:KC (PV×CO)}{r:CG}{fr:Fr}{H:CW}
  (hr:∀fr H,fr.get 8=.d (.l (K1 2) [] true)->fr.get 9=.d (I 6)->qao fr=[]->k .ret fr H=r)
  (h0:gc [2,3,10,13,14,16,18,103,104,105] 0 ⟨fr,H⟩=⟨[(105,.d (I 0)),(104,.d (I l.length)),(103,.r 0 K0 0 l.length true),(18,.d (I cnt)),(16,.d (I vol)),(14,.d (I low)),(13,.d (I now)),(10,.p 1 0 0),(3,.d (I amount)),(2,.d (I day))],[some (.sl K0 0 (l.map I)),some (.box (K1 7) (.d a.dv))]⟩) :
  kC T.env 0 fr H (.h (.loop [2,3,10,13,14,16,18,103,104,105] qrc,k))=brn (l.all λn=>wth n MA) (.h (k (.exit 3) [(106,.d (.b false)),(105,.d (I l.length)),(104,.d (I l.length)),(103,.r 0 K0 0 l.length true),(18,.d (I cnt)),(16,.d (I vol)),(14,.d (I low)),(13,.d (I now)),(10,.p 1 0 0),(3,.d (I amount)),(2,.d (I day))] [some (.sl K0 0 (l.map I)),some (.box (K1 7) (.d a.dv))],r)):=by
 have hm:=mxl;rw[qcr l (λi _=>⟨[(105,.d (I i)),(104,.d (I l.length)),(103,.r 0 K0 0 l.length true),(18,.d (I cnt)),(16,.d (I vol)),(14,.d (I low)),(13,.d (I now)),(10,.p 1 0 0),(3,.d (I amount)),(2,.d (I day))],[some (.sl K0 0 (l.map I)),some (.box (K1 7) (.d a.dv))]⟩) (λ_ _=>True) (λi _ x c=>if wth x MA=true then c ()else r) (λ_=>k (.exit 3) [(106,.d (.b false)),(105,.d (I l.length)),(104,.d (I l.length)),(103,.r 0 K0 0 l.length true),(18,.d (I cnt)),(16,.d (I vol)),(14,.d (I low)),(13,.d (I now)),(10,.p 1 0 0),(3,.d (I amount)),(2,.d (I day))] [some (.sl K0 0 (l.map I)),some (.box (K1 7) (.d a.dv))]) ?_ ?_ h0 trivial]
 ·rw[qhp (λn=>wth n MA) r]
  ·cases l.all λn=>wth n MA<;>rfl
  ·exact λ_ _ _ _=>rfl
 ·intro B _ _ _;simp[qrc]
 ·intro B _ i _ hi _ c hc;have h1:(i:Int)<l.length:=by omega
  have h3:=wr1 (i:=i) (by omega);have hw:wth l[i] MA=(decide (-1000000000000<=l[i])&&decide (l[i]<=1000000000000)):=rfl;rw[hw];simp[qrc,h1,hi,↓qcu,↓qcS];repeat' (refine qbx (λh=>?_) (λh=>?_)<;>(try simp at h)<;>(try simp[h,h3]))
  all_goals first
   | (rw[if_neg (by simp;omega)];exact hr _ _ (by simp[Fr.get]) (by simp[Fr.get]) (by simp[qao,gh]))
   | (rw[if_pos (by simp;omega)];exact hc () _ _ trivial (by simp[gc,Fr.keep,qaH,qaw,qat,PV.refs,PV.Av,qaJ,gcH,qaO,Obj.refs,PV.ren,PV.Bp,Obj.ren,Heap.obj,Fr.ren,gh,zzd]))
   |exact hr _ _ (by simp[Fr.get]) (by simp[Fr.get]) (by simp[qao,gh])
   |exact hc () _ _ trivial (by simp[gc,Fr.keep,qaH,qaw,qat,PV.refs,qaJ,gcH,qaO,Obj.refs,PV.ren,Obj.ren,Heap.obj,Fr.ren,gh,zzd])
def qRv(T:Tab)(hU:HU T)(hV:HV T)(b:Af)(id day amount:Int)(hb:b.ok):T.val 801 [b.dv,I id,I day,I amount]=some (.t [.d (.l (K1 2) ((qbI b id day amount).1.map V2) (qbI b id day amount).1.isEmpty),.d (I (qbI b id day amount).2)],false):=by
 rw[qab T (hV 801 F801 rfl) rfl];have e:=qqB T hU b id hb;have e1:=qnU T hV day;have e2:=qCT T hV hU b id day hb;unfold qbI;cases hf:qdG b id with
 |none=>rw[hf]at e;simp only[Option.getD_none,Option.isSome_none]at e;simp[F801,Fr.Aa,e,qaN,pur,qaW]
 |some a=>
  rw[hf]at e;simp only[zzA,Option.isSome_some]at e;obtain⟨v,hv⟩:∃v,qaZ day=v:=⟨_,rfl⟩;obtain⟨q,hq⟩:∃q,qkl b id day=q:=⟨_,rfl⟩;rw[hv]at e1;rw[hq]at e2;simp only[hv,hq];cases v with
  |false=>simp[F801,Fr.Aa,e,e1,qaN,pur,qaW]
  |true=>
   cases q with
   |false=>simp[F801,Fr.Aa,e,e1,e2,qaN,pur,qaW]
   |true=>
    have hj:=(hb.2.2.2.2.2.2.1);have ho:∀e∈b.Bc.l,e.Ai.l.length<=maxLen:=λe he=>((hj.2 e he).2.2.2.2.2.2.2.2.1).1;have e3:=qRC T hV day hv;have e4:=qRH T hU hV b.Bc.l b.Bc.t id (mst day) day hj.1 ho;have e5:=qRE T hU hV b.Bc.l b.Bc.t id (max (mst day) a.BQ) day hj.1 ho;have e6:∀x r,dly b.Bc.l id (max (mst day) a.BQ) day=x::r->T.val 881 [.l K0 ((x::r).map I) false]=some (.d (I (qeZ (x::r))),false):=λx r h=>qRF T hV x r false (by have:=qFz b.Bc.l id (max (mst day) a.BQ) day;rw[h]at this;simp at this;have:maxLen=9223372036854775807:=rfl;omega);have e7:=qRq T hU b.Bc.l b.Bc.t id hj.1 ho;rw[qKM]at e7;have c1:=λn=>qRJ T hV n;have c2:=λn=>qRK T hV n;have lp0:=λnow low vol k fr H=>@qJM T hV a b.Bc.l b.Bc.t id (mst day) day amount now low vol hj.1 hj.2 k fr H;obtain⟨am,ham⟩:∃l,qiH b a id day amount=l:=⟨_,rfl⟩;obtain⟨ok,hok⟩:∃q,(am.all λn=>wth n MA)=q:=⟨_,rfl⟩;have hl:am.length=4:=by rw[<-ham];rfl
    have lp:=λnow low vol cnt k r fr H=>@qJN T a day amount (mst day) now low vol cnt am (by rw[hl];decide) k r fr H;simp only[hok]at lp;simp only[ham,hok];cases hd:dly b.Bc.l id (max (mst day) a.BQ) day with
    |nil=>
     rw[hd]at e5;simp only[List.map_nil]at e5;simp[F801,Fr.Aa,e,e1,e2,e3,e4,e5,e7,↓qfW];refine (lp0 (ofR b.Bc.l id) 0 (qjI b.Bc.l id (mst day) day).1 _ _ _ (by simp[gc,Fr.keep,qaH,qaw,qat,PV.refs,qaJ,gcH,qaO,Obj.refs,PV.ren,Obj.ren,Heap.obj,Fr.ren,gh,zzd])).trans ?_;simp[qdD,qdF,qdE];refine (lp (ofR b.Bc.l id) 0 (qjI b.Bc.l id (mst day) day).1 (qiX b.Bc.l id (mst day) day) _ (some (.t [.d (.l (K1 2) [] true),.d (I 6)],false)) _ _ ?_ ?_).trans ?_
     ·intro fr H h8 h9 hg;simp[h8,h9,hg,qcF,qaN,pur,qaW]
     ·simp[gc,Fr.keep,qaH,qaw,qat,PV.refs,qaJ,gcH,qaO,Obj.refs,PV.ren,Obj.ren,Heap.obj,Fr.ren,gh,zzd,<-ham,qiH,hd,qeZ,qiX]
     ·refine qbx (λh=>?_) (λh=>?_)
      ·subst h;simp[↓qbm,↓qbn,↓qbg,↓qbd,qbh,↓qbf,↓qbu,↓qbv,↓qbe,↓qbj,↓qbl,qa3,Ar,Az,qas,qaP,chg,qaY,runs,qaM,qaX,PV.refs,IOp.okD,Nat.testBit,↓qoR,↓qoH,qac,c1,c2,qak,qam,qal,qaj,putAt,mkA,qai,qdD,qdF,qdE,qaN,pur,qaW];simp[<-ham,qiH,hd,qeZ,V2,w64,qiX]
      ·subst h;simp
    |cons x r=>
     have e6':=e6 x r hd;rw[hd]at e5;simp only[zzu]at e5 e6';have hpos:(0:Int)<(r.length:Int)+1:=by omega
     simp[F801,Fr.Aa,e,e1,e2,e3,e4,e5,e6',e7,↓qfW,hpos];refine (lp0 (ofR b.Bc.l id) (qeZ (x::r)) (qjI b.Bc.l id (mst day) day).1 _ _ _ (by simp[gc,Fr.keep,qaH,qaw,qat,PV.refs,qaJ,gcH,qaO,Obj.refs,PV.ren,Obj.ren,Heap.obj,Fr.ren,gh,zzd])).trans ?_;simp[qdD,qdF,qdE];refine (lp (ofR b.Bc.l id) (qeZ (x::r)) (qjI b.Bc.l id (mst day) day).1 (qiX b.Bc.l id (mst day) day) _ (some (.t [.d (.l (K1 2) [] true),.d (I 6)],false)) _ _ ?_ ?_).trans ?_
     ·intro fr H h8 h9 hg;simp[h8,h9,hg,qcF,qaN,pur,qaW]
     ·simp[gc,Fr.keep,qaH,qaw,qat,PV.refs,qaJ,gcH,qaO,Obj.refs,PV.ren,Obj.ren,Heap.obj,Fr.ren,gh,zzd,<-ham,qiH,hd,qeZ,qiX]
     ·refine qbx (λh=>?_) (λh=>?_)
      ·subst h;simp[↓qbm,↓qbn,↓qbg,↓qbd,qbh,↓qbf,↓qbu,↓qbv,↓qbe,↓qbj,↓qbl,qa3,Ar,Az,qas,qaP,chg,qaY,runs,qaM,qaX,PV.refs,IOp.okD,Nat.testBit,↓qoR,↓qoH,qac,c1,c2,qak,qam,qal,qaj,putAt,mkA,qai,qdD,qdF,qdE,qaN,pur,qaW];simp[<-ham,qiH,hd,qeZ,V2,w64,qiX]
      ·subst h;simp
end
section
attribute [local simp ↓] qbm qbn qbg qbz qbp qbJ qbd qbf qbw qbA qbB qbu qbv qbe qby qbj qbR qbQ qdZ qbH qbE qd8 qd7 qbl qdV qb2 qdW qdY qdX qbG qbF qd1 qd3 qd6 qd5 qd4 qd0 qd2 qd9 qbC qbD
attribute [local simp] qbh qa3 Ar Az qas qaP chg qaY runs qaM qaX PV.refs PV.Av IOp.okD IOp.Bg qbk Nat.testBit
attribute [local simp] gc Fr.keep qaH qaw qat PV.refs PV.Av qaJ gcH qaO Obj.refs PV.ren PV.Bp Obj.ren Heap.obj Fr.ren gh zzd
def qbq(k:K)(bs:CW):Cy->CW
 |[]=>bs
 |x::r=>some (.sl k 0 (x::r))::bs
def pB(i:Nat):Cy->PV
 |[]=>.p i 0 0
 |_::_=>.p (i+1) 0 0
def qvk{α:Type}(f:α->DV)(l:CL α)(i:Nat)(h:i<l.length):(l.take (i+1)).map f=(l.take i).map f++[f l[i]]:=by rw[zzw h,List.map_append,zzu,List.map_nil]
def qJX(T:Tab)(op:Int)(vs:CL Ah)(t:CO)(z:DV)(hn:vs.length*56<=140737488355328){k:KC (PV×CO)}{r:CG}{fr:Fr}{H:CW}
  (he:k (.exit 0) [(19,.d (.b false)),(18,.d (I vs.length)),(17,.d (I vs.length)),(16,.d (.l (K1 2) (vs.map Ah.dv) t)),(6,qah K0 (vs.map λv=>I v.Typ)),(4,pB 0 (vs.map λv=>I v.Typ)),(1,.d (.l (K1 2) (vs.map Ah.dv) t)),(0,.d (I op))] (qbq K0 [some (.box (K1 2) (.d z))] (vs.map λv=>I v.Typ))=r)
  (h0:gc [0,1,4,6,16,17,18] 0 ⟨fr,H⟩=⟨[(18,.d (I 0)),(17,.d (I vs.length)),(16,.d (.l (K1 2) (vs.map Ah.dv) t)),(6,.d (.l K0 [] true)),(4,.p 0 0 0),(1,.d (.l (K1 2) (vs.map Ah.dv) t)),(0,.d (I op))],[some (.box (K1 2) (.d z))]⟩) :
  kC T.env 0 fr H (.h (.loop [0,1,4,6,16,17,18] qol,k))=r:=by
 refine qh9 (λp:Nat×Cy=>⟨[(18,.d (I p.1)),(17,.d (I vs.length)),(16,.d (.l (K1 2) (vs.map Ah.dv) t)),(6,qah K0 p.2),(4,pB 0 p.2),(1,.d (.l (K1 2) (vs.map Ah.dv) t)),(0,.d (I op))],qbq K0 [some (.box (K1 2) (.d z))] p.2⟩) (λi=>(i,(vs.take i).map λv=>I v.Typ)) vs.length ?_ ?_ (by rw[h0];rfl)
 ·intro B _;simp only[List.take_length];rw[<-he];have h1:¬((vs.length:Int)<vs.length):=by omega
  simp[qol]
 ·intro B _ i hi c hc;have h1:(i:Int)<vs.length:=by omega
  have h3:=wr1 (i:=i) (by omega);have hl:((vs.take i).map λv=>I v.Typ).length<=i:=by simp;omega
  simp only[qvk (λv:Ah=>I v.Typ) vs i hi]at hc;simp only;generalize (vs.take i).map (λv=>I v.Typ)=o at *
  cases o with
  |nil=>simp only[qah,qbq,pB,List.nil_append]at hc⊢;simp[qol,h1,hi,h3,zzj];exact hc _ _ (by simp)
  |cons x o=>
   simp only[qah,qbq,pB,List.cons_append]at hc⊢;simp only[zzn]at hl;have h5:(o.length+1+1)*8<=140737488355328:=by omega
   have ht:o.take o.length=o:=zzv (by simp);simp[qol,h1,hi,h3,h5,ht,zzj];exact hc _ _ (by simp)
def qJY(T:Tab)(hT:HT T)(op w:Int)(vs:CL Ah)(t:CO)(z:DV)(hn:vs.length*56<=140737488355328){k:KC (PV×CO)}{r:CG}{fr:Fr}{H:CW}
  (he:vs.all okV=true->k (.exit 2) [(40,.d (.b false)),(39,.d (I vs.length)),(38,.d (I vs.length)),(37,.d (.l (K1 2) (vs.map Ah.dv) t)),(9,.d (I w)),(4,.p 0 0 0),(1,.d (.l (K1 2) (vs.map Ah.dv) t)),(0,.d (I op))] [some (.box (K1 2) (.d z))]=r)
  (hr:vs.all okV=false->∀fr J,fr.get 4=.p 0 0 0->fr.get 5=.d (I 1)->qao fr=[]->k .ret fr (some (.box (K1 2) (.d (.a [I 0,I 0])))::J)=r)
  (h0:gc [0,1,4,9,37,38,39] 0 ⟨fr,H⟩=⟨[(39,.d (I 0)),(38,.d (I vs.length)),(37,.d (.l (K1 2) (vs.map Ah.dv) t)),(9,.d (I w)),(4,.p 0 0 0),(1,.d (.l (K1 2) (vs.map Ah.dv) t)),(0,.d (I op))],[some (.box (K1 2) (.d z))]⟩) :
  kC T.env 0 fr H (.h (.loop [0,1,4,9,37,38,39] qom,k))=r:=by
 refine qcq (λi:Nat=>⟨[(39,.d (I i)),(38,.d (I vs.length)),(37,.d (.l (K1 2) (vs.map Ah.dv) t)),(9,.d (I w)),(4,.p 0 0 0),(1,.d (.l (K1 2) (vs.map Ah.dv) t)),(0,.d (I op))],[some (.box (K1 2) (.d z))]⟩) (λi=>i<=vs.length/\(vs.take i).all okV=true) (λi=>vs.length-i) ?_ 0 ⟨zzK _,by simp⟩ h0;rintro B-i ⟨hi,ha⟩ hx;by_cases hlt:i<vs.length
 ·have h1:(i:Int)<vs.length:=by omega
  have h3:=wr1 (i:=i) (by omega);have e:=qvx T hT vs[i];cases hk:okV vs[i]with
  |true=>rw[hk]at e;have hx':=hx (i+1) ⟨by omega,by rw[zzw hlt,List.all_append,ha];simp[hk]⟩ (by omega);simp[qom,h1,hlt,e,zzj,h3];exact hx' _ _ (by simp)
  |false=>
   rw[hk]at e;have hf:vs.all okV=false:=by rw[List.all_eq_false];exact⟨vs[i],zzs hlt,by simp[hk]⟩
   have hr':=hr hf;simp[qom,h1,hlt,e,zzj,h3,↓qak,↓qam,↓qal,putAt,mkA,qac,qai,qan,qaj];exact hr' _ _ (by simp[Fr.get]) (by simp[Fr.get]) (by simp[qao,gh])
 ·have:i=vs.length:=by omega
  subst this;rw[List.take_length]at ha;have he':=he ha;have h1:¬((vs.length:Int)<vs.length):=by omega
  simp[qom];exact he'
def chP(op:Int):CL Ah->Int
 |[a]=>IntKind.i64.wrap (1-a.N)
 |[a,b]=>qgf op a.N b.N
 |[a,b,c]=>if a.N=1 then b.N else c.N
 |_=>0
def clP(op:Int):CL Ah->Int×Int
 |[a]=>qbX (-a.N)
 |[a,b]=>qku op a b
 |_=>(0,0)
def qkp(w:Int)(ok:CO)(op:Int)(vs:CL Ah):Ah×Int:=
 if ok=false then (⟨0,0⟩,3)else if vs.all okV=false then (⟨0,0⟩,1)
 else if op<5\/9<op then (⟨w,chP op vs⟩,0)
 else if (clP op vs).2=0 then (if okV ⟨w,(clP op vs).1⟩=true then (⟨w,(clP op vs).1⟩,0)else (⟨0,0⟩,6))
 else (⟨0,0⟩,(clP op vs).2)
def qeK(op:Int)(vs:CL Ah):Ah×Int:=qkp (qb9 op (vs.map (·.Typ))).1 (qb9 op (vs.map (·.Typ))).2 op vs
def qa4(p:Ah×Int):PV×CO:=(.t [.d p.1.dv,.d (I p.2)],false)
def qww{op a b:Int}:∀{l},(∀x∈l,(5:Int)<=x.1.1/\x.1.1<=8)->arF l op a b≠none->5<=op/\op<=8
 |[],_,h=>absurd rfl h
 |x::r,hl,h=>by
  rw[arF]at h;by_cases c:op=x.1.1/\a=x.1.2.1/\b=x.1.2.2
  ·have:=hl x (by simp);omega
  ·rw[if_neg c]at h;exact qww (λy hy=>hl y (by simp[hy])) h
def qwx{op a b:Int}(h:arV op a b≠0):5<=op/\op<=8:=by
 apply qww (l:=arL) (a:=a) (b:=b)
 ·decide
 ·intro c;rw[arV,c]at h;exact h rfl
def qCI{op a b:Int}(h:(qc3 op a b).2=true):op≠9/\op≠16/\op≠19:=by
 unfold qc3 at h;by_cases h1:op=10\/op=11
 ·omega
 rw[if_neg h1]at h;by_cases h2:op=12\/op=13
 ·omega
 rw[if_neg h2]at h;by_cases h3:op=14\/op=15
 ·omega
 rw[if_neg h3]at h;by_cases h4:op=17\/op=18
 ·omega
 rw[if_neg h4]at h;have h:arV op a b≠0:=by simpa using h
 have:=qwx h;omega
def qAU{op a:Int}(h:(qde op a).2=true):op=9\/op=16:=by
 unfold qde at h;by_cases h1:op=16
 ·exact .inr h1
 ·rw[if_neg h1]at h;by_cases h2:op=9
  ·exact .inl h2
  ·rw[if_neg h2]at h;cases h
def qEn(T:Tab)(hT:HT T)(op:Int)(vs:CL Ah)(t:CO)(hi:∀v∈vs,v.i)(h:(qb9 op (vs.map (·.Typ))).2=true) :
  ((op<5\/9<op)->T.val 983 [I op,.l (K1 2) (vs.map Ah.dv) t]=some (.d (I (chP op vs)),false))/\(¬(op<5\/9<op)->T.val 984 [I op,.l (K1 2) (vs.map Ah.dv) t]=some (two (clP op vs))):=by
 unfold qb9 at h;by_cases ha:(vs.map (·.Typ)).all qdc=true
 ·rw[if_pos ha]at h;match vs,hi,h with
  |[],_,h=>cases h
  |[a],hi,h=>
   simp only[zzu,List.map_nil]at h⊢;have ho:(qde op a.Typ).2=true:=by
    by_cases c:(qde op a.Typ).2=true
    ·exact c
    ·rw[if_neg c]at h;cases h
   have:=qAU ho;refine⟨λh1=>?_,λh1=>?_⟩
   ·have:op=16:=by omega
    subst this;exact qRZ T hT a t
   ·have:op=9:=by omega
    subst this;exact qR1 T hT a t (hi a (by simp))
  |[a,b],hi,h=>
   simp only[zzu,List.map_nil]at h⊢;have ho:(qc3 op a.Typ b.Typ).2=true:=by
    by_cases c:(qc3 op a.Typ b.Typ).2=true
    ·exact c
    ·rw[if_neg c]at h;cases h
   obtain⟨o1,o2,o3⟩:=qCI ho;exact⟨λ_=>qRX T hT op a b t o2 o3,λ_=>qR0 T hT op a b t (hi a (by simp)) (hi b (by simp)) o1⟩
  |[a,b,c],hi,h=>
   simp only[zzu,List.map_nil]at h⊢;have ho:op=19:=by
    by_cases c':op=19/\a.Typ=5/\b.Typ=c.Typ
    ·exact c'.1
    ·rw[if_neg c']at h;cases h
   subst ho;exact⟨λ_=>qRY T hT a b c t,λh1=>absurd (.inr (by decide)) h1⟩
  |_::_::_::_::_,_,h=>cases h
 ·rw[if_neg ha]at h;cases h
def qc1(l:Cy):(PV.d (.a l)).cells=l.map .d:=rfl
def qa6(l:Cy):DV.cells (.a l)=l:=rfl
def qib{R:Type}{a b:DV}{q:PV->CK R}:bo (mkP (K1 2) [.d a,.d b]) (.h q)=q (.d (.a [a,b])):=rfl
def qRW(T:Tab)(hT:HT T)(hA:HA T)(op:Int)(vs:CL Ah)(t:CO)(hn:vs.length*56<=140737488355328)(hi:∀v∈vs,v.i):T.val 967 [I op,.l (K1 2) (vs.map Ah.dv) t]=some (qa4 (qeK op vs)):=by
 have lp0:=λk r fr H=>@qJX T op vs t (.a [I 0,I 0]) hn k r fr H;have lp1:=λw k r fr H=>@qJY T hT op w vs t (.a [I 0,I 0]) hn k r fr H;have hm:=mxl;have e411:=qqC T hT hA op (vs.map (·.Typ)) false (by rw[zzo,hm];omega);have e411t:=qqC T hT hA op (vs.map (·.Typ)) true (by rw[zzo,hm];omega);rw[List.map_map]at e411 e411t;have hp:=qEn T hT op vs t hi;unfold qeK;have hmm:((λn=>I n)∘λv:Ah=>v.Typ)=λv:Ah=>I v.Typ:=rfl;rw[hmm]at e411 e411t;generalize qb9 op (vs.map (·.Typ))=p at *
 obtain⟨w,ok⟩:=p;unfold qa9 at e411 e411t;simp only at hp e411 e411t⊢;obtain⟨r,hr⟩:∃r,some (qa4 (qkp w ok op vs))=r:=⟨_,rfl⟩;rw[qab T (hT 967 F967 rfl) rfl,hr];simp[F967,Fr.Aa];refine lp0 _ _ _ _ ?_ (by simp);cases ho:vs.map (λv=>I v.Typ)with
 |nil=>
  have hv:vs=[]:=by simpa using ho
  subst hv;simp only[List.map_nil]at e411t;cases ok with
  |false=>rw[qkp,if_pos rfl]at hr;rw[<-hr];simp[qah,qbq,pB,e411t,↓qak,↓qam,↓qal,putAt,mkA,qac,qai,qan,qaj,qc1,qib,qa6,qa4,Ah.dv]
  |true=>exfalso;have:=e411t;have e0:=qqC T hT hA op [] true (by simp);simp only[List.map_nil]at e0;rw[e0]at this;simp[qb9,qa9]at this
 |cons x o=>
  rw[ho]at e411;have ht:o.take o.length=o:=zzv (by simp);cases ok with
  |false=>rw[qkp,if_pos rfl]at hr;rw[<-hr];simp[qah,qbq,pB,ht,qaN,pur,qaW,PV.AY,PV.AU,DV.AY,DV.AU,e411,↓qak,↓qam,↓qal,putAt,mkA,qac,qai,qan,qaj,qc1,qib,qa6,qa4,Ah.dv]
  |true=>
   obtain⟨p1,p2⟩:=hp rfl;rw[qkp,if_neg (by decide)]at hr;simp[qah,qbq,pB,ht,qaN,pur,qaW,PV.AY,PV.AU,DV.AY,DV.AU,e411];refine lp1 w _ _ _ _ (λha=>?_) (λha fr J f4 f5 fg=>?_) (by simp)
   ·rw[if_neg (by rw[ha];decide)]at hr;by_cases h5:op<5
    ·rw[if_pos (.inl h5)]at hr;rw[<-hr];have e:=p1 (.inl h5);simp[h5,e,↓qak,↓qam,↓qal,putAt,mkA,qac,qai,qan,qaj,qc1,qib,qa6,qa4,Ah.dv]
    ·by_cases h9:9<op
     ·rw[if_pos (.inr h9)]at hr;rw[<-hr];have e:=p1 (.inr h9);simp[h5,h9,e,↓qak,↓qam,↓qal,putAt,mkA,qac,qai,qan,qaj,qc1,qib,qa6,qa4,Ah.dv]
     ·rw[if_neg (by omega)]at hr;rw[<-hr];clear hr;have e:=p2 (by omega);generalize clP op vs=q at *
      obtain⟨n,f⟩:=q;unfold two at e;simp only at e⊢;have e3:=qvx T hT ⟨w,n⟩;rw[Ah.dv]at e3;simp only at e3;by_cases hf:f=0
      ·subst hf;rw[if_pos rfl];cases hk:okV ⟨w,n⟩with
       |true=>rw[hk]at e3;simp[h5,h9,e,e3,↓qak,↓qam,↓qal,putAt,mkA,qac,qai,qan,qaj,qc1,qib,qa6,qa4,Ah.dv]
       |false=>rw[hk]at e3;simp[h5,h9,e,e3,↓qak,↓qam,↓qal,putAt,mkA,qac,qai,qan,qaj,qc1,qib,qa6,qa4,Ah.dv]
      ·have gf:=qae hf;rw[if_neg hf];simp[h5,h9,e,hf,gf,bne,↓qak,↓qam,↓qal,putAt,mkA,qac,qai,qan,qaj,qc1,qib,qa6,qa4,Ah.dv]
   ·rw[if_pos ha]at hr;rw[<-hr];simp[f4,f5,fg,qa4,Ah.dv]
def Ans{R:Type}(Q:R->Prop)(x:CK R):Prop:=∃r,x=some r/\Q r
def qwv{R:Type}{Q:R->Prop}{c:CO}{x y:CK R}(h1:c=true->Ans Q x)(h2:c=false->Ans Q y):Ans Q (brn c (.h (x,y))):=by
 cases c with
 |true=>exact h1 rfl
 |false=>exact h2 rfl
def qcM{R:Type}{Q:R->Prop}{r:R}(h:Q r):Ans Q (some r):=⟨r,rfl,h⟩
def IsI(r:PV×CO):Prop:=∃n:Int,r=(.d (I n),false)
def IsB(r:PV×CO):Prop:=∃b:CO,r=(.d (.b b),false)
def qG9{x:CG}(h:Ans IsI x):∃n:Int,x=some (.d (I n),false):=by obtain⟨r,h1,n,h2⟩:=h;exact⟨n,by rw[h1,h2]⟩
def qG7{x:CG}(h:Ans IsB x):∃b:CO,x=some (.d (.b b),false):=by obtain⟨r,h1,n,h2⟩:=h;exact⟨n,by rw[h1,h2]⟩
def qei(op:Int):Int:=if op=1\/op=2\/op=3\/op=4 then 0 else if op=9\/op=16 then 1 else if op=19 then 3 else if 5<=op/\op<=18 then 2 else -1
def qjr(op:Int):Int:=if op=1 then 9223372036854775807 else if op=2 then 1000000000000 else if op=3 then 1000000 else 0
def qx5(x:Ae):CO:=qei x.Op==(x.AR.l.length:Int)&&decide (0<=x.N)&&decide (x.N<=qjr x.Op)&&(x.S==[]||x.Op==4)
def qQU(T:Tab)(hT:HT T)(op:Int):T.val 414 [I op]=some (.d (I (qei op)),false):=by
 rw[qab T (hT 414 qdk rfl) rfl];by_cases c1:op=1
 ·subst c1;rw[show qei 1=0 from rfl];simp[qdk,Fr.Aa]
 have d1:=qae c1;by_cases c2:op=2
 ·subst c2;rw[show qei 2=0 from rfl];simp[qdk,Fr.Aa]
 have d2:=qae c2;by_cases c3:op=3
 ·subst c3;rw[show qei 3=0 from rfl];simp[qdk,Fr.Aa]
 have d3:=qae c3;by_cases c4:op=4
 ·subst c4;rw[show qei 4=0 from rfl];simp[qdk,Fr.Aa]
 have d4:=qae c4;by_cases c9:op=9
 ·subst c9;rw[show qei 9=1 from rfl];simp[qdk,Fr.Aa]
 have d9:=qae c9;by_cases c16:op=16
 ·subst c16;rw[show qei 16=1 from rfl];simp[qdk,Fr.Aa]
 have d16:=qae c16;by_cases c19:op=19
 ·subst c19;rw[show qei 19=3 from rfl];simp[qdk,Fr.Aa]
 have d19:=qae c19;rw[qei,if_neg (by omega),if_neg (by omega),if_neg c19];by_cases h1:5<=op
 ·by_cases h2:op<=18
  ·rw[if_pos ⟨h1,h2⟩];simp[qdk,Fr.Aa,c1,d1,c2,d2,c3,d3,c4,d4,c9,d9,c16,d16,c19,d19,h1,h2]
  ·rw[if_neg (λh=>h2 h.2)];simp[qdk,Fr.Aa,c1,d1,c2,d2,c3,d3,c4,d4,c9,d9,c16,d16,c19,d19,h1,h2]
 ·rw[if_neg (λh=>h1 h.1)];simp[qdk,Fr.Aa,c1,d1,c2,d2,c3,d3,c4,d4,c9,d9,c16,d16,c19,d19,h1]
def qQR(T:Tab)(hT:HT T)(x:Ae):T.val 408 [x.dv]=some (.d (.b (qx5 x)),false):=by
 have e:=qQU T hT x.Op;have hop:(x.Op=1/\qjr x.Op=9223372036854775807)\/(x.Op=2/\qjr x.Op=1000000000000)\/(x.Op=3/\qjr x.Op=1000000)\/(x.Op≠1/\x.Op≠2/\x.Op≠3/\qjr x.Op=0):=by
  unfold qjr;by_cases c1:x.Op=1
  ·exact .inl ⟨c1,if_pos c1⟩
  ·by_cases c2:x.Op=2
   ·exact .inr (.inl ⟨c2,by rw[if_neg c1,if_pos c2]⟩)
   ·by_cases c3:x.Op=3
    ·exact .inr (.inr (.inl ⟨c3,by rw[if_neg c1,if_neg c2,if_pos c3]⟩))
    ·exact .inr (.inr (.inr ⟨c1,c2,c3,by rw[if_neg c1,if_neg c2,if_neg c3]⟩))
 obtain⟨o,n,s,a⟩:=x;unfold qx5;simp only at e hop⊢;generalize qjr o=M at *
 obtain⟨r,hr⟩:∃r:CG,some (.d (.b (qei o==(a.l.length:Int)&&decide (0<=n)&&decide (n<=M)&&(s==[]||o==4))),false)=r:=⟨_,rfl⟩;rw[qab T (hT 408 qhF rfl) rfl,hr];generalize qei o=q at *
 rcases hop with ⟨rfl,rfl⟩|⟨rfl,rfl⟩|⟨rfl,rfl⟩|⟨n1,n2,n3,rfl⟩
 ·simp[qhF,Fr.Aa,e];rw[<-hr];repeat' (refine qbx (λh=>?_) (λh=>?_)<;>(try simp at h)<;>(try simp[h,e]))
  all_goals (intros;omega)
 ·simp[qhF,Fr.Aa,e];rw[<-hr];repeat' (refine qbx (λh=>?_) (λh=>?_)<;>(try simp at h)<;>(try simp[h,e]))
  all_goals (intros;omega)
 ·simp[qhF,Fr.Aa,e];rw[<-hr];repeat' (refine qbx (λh=>?_) (λh=>?_)<;>(try simp at h)<;>(try simp[h,e]))
  all_goals (intros;omega)
 ·have g1:=qae n1;have g2:=qae n2;have g3:=qae n3;simp[qhF,Fr.Aa,e,g1,g2,g3];rw[<-hr];repeat' (refine qbx (λh=>?_) (λh=>?_)<;>(try simp at h)<;>(try simp[h,e]))
  all_goals (intros;omega)
def qkv{α β:Type}[Nonempty β]{l:CL α}{P:α->β->Prop}(h:∀a∈l,∃b,P a b):∃g:α->β,∀a∈l,P a (g a):=
 ⟨λa=>Classical.epsilon (P a),λa ha=>Classical.epsilon_spec (h a ha)⟩
def qna{x:Ae}{l:CL Ae}(h:x.AR.l=l.map Ae.dv){a:Ae}(ha:a∈l):SizeOf.sizeOf a.dv<SizeOf.sizeOf x.dv:=by have:=List.sizeOf_lt_of_mem (List.mem_map_of_mem (f:=Ae.dv) ha);rw[<-h]at this;simp only[Ae.dv,DV.a.sizeOf_spec,List.cons.sizeOf_spec,DV.l.sizeOf_spec]at this⊢;omega
def qnb{x:Ae}(hx:x.ok):∃l:CL Ae,x.AR.l=l.map Ae.dv/\(∀a∈l,a.ok)/\l.length*56<=140737488355328:=by obtain⟨o,m,s,a⟩:=x;obtain⟨a,t⟩:=a;obtain⟨_,_,_,hX⟩:=hx;simp only at hX;obtain⟨h1,l,h2,h3⟩:=qoC hX;refine⟨l,h2,h3,?_⟩;cases hX with|mk _ _ _ h=>rw[h2]at h;simpa[qbt]using h
def qJx(T:Tab)(l:CL Ae)(t:CO)(g:Ae->Int)(hg:∀a∈l,T.val 405 [a.dv]=some (.d (I (g a)),false))(hn:l.length*56<=140737488355328){k:KC (PV×CO)}{r:CG}{fr:Fr}{H:CW}
  (he:k (.exit 0) [(10,.d (.b false)),(9,.d (I l.length)),(8,.d (I l.length)),(7,.d (.l (K1 4) (l.map Ae.dv) t)),(3,.d (I (l.foldl (λn a=>IntKind.i64.wrap (n+g a)) 1)))] []=r)
  (h0:gc [3,7,8,9] 0 ⟨fr,H⟩=⟨[(9,.d (I 0)),(8,.d (I l.length)),(7,.d (.l (K1 4) (l.map Ae.dv) t)),(3,.d (I 1))],[]⟩) :
  kC T.env 0 fr H (.h (.loop [3,7,8,9] qqW,k))=r:=by
 refine qh9 (λp:Nat×Int=>⟨[(9,.d (I p.1)),(8,.d (I l.length)),(7,.d (.l (K1 4) (l.map Ae.dv) t)),(3,.d (I p.2))],[]⟩) (λi=>(i,(l.take i).foldl (λn a=>IntKind.i64.wrap (n+g a)) 1)) l.length ?_ ?_ (by rw[h0];rfl)
 ·intro B _;simp only[List.take_length];rw[<-he];have h1:¬((l.length:Int)<l.length):=by omega
  simp[qqW]
 ·intro B _ i hi c hc;have h1:(i:Int)<l.length:=by omega
  have h3:=wr1 (i:=i) (by omega);have e:=hg l[i] (zzs hi);simp only[zzw hi,List.foldl_append,List.foldl_cons,List.foldl_nil]at hc;simp only;generalize (l.take i).foldl (λn a=>IntKind.i64.wrap (n+g a)) 1=m at *
  simp[qqW,h1,hi,h3,e,zzj];exact hc _ _ (by simp)
def qQO(T:Tab)(hT:HT T)(x:Ae)(l:CL Ae)(h2:x.AR.l=l.map Ae.dv)(h4:l.length*56<=140737488355328)(g:Ae->Int)(hg:∀a∈l,T.val 405 [a.dv]=some (.d (I (g a)),false)) :
  T.val 405 [x.dv]=some (.d (I (l.foldl (λn a=>IntKind.i64.wrap (n+g a)) 1)),false):=by
 have lp:=λk r fr H=>@qJx T l x.AR.t g hg h4 k r fr H;rw[qab T (hT 405 F405 rfl) rfl];obtain⟨o,m,s,a⟩:=x;obtain⟨a,t⟩:=a;simp only at h2 lp;subst h2;simp[F405,Fr.Aa];refine lp _ _ _ _ ?_ (by simp);simp
def qQN(T:Tab)(hT:HT T):∀(n:Nat) (x:Ae),SizeOf.sizeOf x.dv<n->x.ok->∃v:Int,T.val 405 [x.dv]=some (.d (I v),false):=by
 intro n;induction n with
 |zero=>intro x h;exact absurd h (zzm _)
 |succ n ih=>intro x hn hx;obtain⟨l,h2,h3,h4⟩:=qnb hx;obtain⟨g,hg⟩:=qkv (P:=λa v=>T.val 405 [a.dv]=some (.d (I v),false)) (λa ha=>ih a (by have:=qna h2 ha;omega) (h3 a ha));exact⟨_,qQO T hT x l h2 h4 g hg⟩
def qJy(T:Tab)(l:CL Ae)(t:CO)(g:Ae->Int)(hg:∀a∈l,T.val 406 [a.dv]=some (.d (I (g a)),false))(hn:l.length*56<=140737488355328){k:KC (PV×CO)}{r:CG}{fr:Fr}{H:CW}
  (he:k (.exit 0) [(10,.d (.b false)),(9,.d (I l.length)),(8,.d (I l.length)),(7,.d (.l (K1 4) (l.map Ae.dv) t)),(3,.d (I (l.foldl (λn a=>max n (g a)) 0)))] []=r)
  (h0:gc [3,7,8,9] 0 ⟨fr,H⟩=⟨[(9,.d (I 0)),(8,.d (I l.length)),(7,.d (.l (K1 4) (l.map Ae.dv) t)),(3,.d (I 0))],[]⟩) :
  kC T.env 0 fr H (.h (.loop [3,7,8,9] qqX,k))=r:=by
 refine qh9 (λp:Nat×Int=>⟨[(9,.d (I p.1)),(8,.d (I l.length)),(7,.d (.l (K1 4) (l.map Ae.dv) t)),(3,.d (I p.2))],[]⟩) (λi=>(i,(l.take i).foldl (λn a=>max n (g a)) 0)) l.length ?_ ?_ (by rw[h0];rfl)
 ·intro B _;simp only[List.take_length];rw[<-he];have h1:¬((l.length:Int)<l.length):=by omega
  simp[qqX]
 ·intro B _ i hi c hc;have h1:(i:Int)<l.length:=by omega
  have h3:=wr1 (i:=i) (by omega);have e:=hg l[i] (zzs hi);simp only[zzw hi,List.foldl_append,List.foldl_cons,List.foldl_nil]at hc;simp only;generalize (l.take i).foldl (λn a=>max n (g a)) 0=m at *
  simp[qqX,h1,hi,h3,e,zzj];exact hc _ _ (by simp)
def qQQ(T:Tab)(hT:HT T)(x:Ae)(l:CL Ae)(h2:x.AR.l=l.map Ae.dv)(h4:l.length*56<=140737488355328)(g:Ae->Int)(hg:∀a∈l,T.val 406 [a.dv]=some (.d (I (g a)),false)) :
  T.val 406 [x.dv]=some (.d (I (IntKind.i64.wrap (l.foldl (λn a=>max n (g a)) 0+1))),false):=by
 have lp:=λk r fr H=>@qJy T l x.AR.t g hg h4 k r fr H;rw[qab T (hT 406 F406 rfl) rfl];obtain⟨o,m,s,a⟩:=x;obtain⟨a,t⟩:=a;simp only at h2 lp;subst h2;simp[F406,Fr.Aa];refine lp _ _ _ _ ?_ (by simp);simp
def qQP(T:Tab)(hT:HT T):∀(n:Nat) (x:Ae),SizeOf.sizeOf x.dv<n->x.ok->∃v:Int,T.val 406 [x.dv]=some (.d (I v),false):=by
 intro n;induction n with
 |zero=>intro x h;exact absurd h (zzm _)
 |succ n ih=>intro x hn hx;obtain⟨l,h2,h3,h4⟩:=qnb hx;obtain⟨g,hg⟩:=qkv (P:=λa v=>T.val 406 [a.dv]=some (.d (I v),false)) (λa ha=>ih a (by have:=qna h2 ha;omega) (h3 a ha));exact⟨_,qQQ T hT x l h2 h4 g hg⟩
def qsE:∀(H J:CW),qat (H++J)=qat H++qat J
 |[],_=>rfl
 |x::H,J=>by rw[List.cons_append,qat,qat,qsE H J,zzM]
def qDl{H:CW}(hH:Cl H)(k k':K)(v:DV)(h:Nat):Cl (H++[some (.box k (.d v)),some (.box k' (.f h []))]):=by
 intro r hr;have:r∈qat H:=by simpa[qsE,qat,qaO,Obj.refs,PV.refs,PV.Av]using hr
 have:=hH r this;simp only[zzp,zzn,List.length_nil];omega
def qDk{H:CW}(hH:Cl H)(k:K)(v:DV):Cl (H++[some (.box k (.d v))]):=by
 intro r hr;have:r∈qat H:=by simpa[qsE,qat,qaO,Obj.refs,PV.refs,PV.Av]using hr
 have:=hH r this;simp only[zzp,zzn,List.length_nil];omega
def qO5(T:Tab)(hT:HT T)(p:Ae->CO)(c:PV)(H0:CW)(hH:Cl H0)(hc:∀r∈PV.Av [c],r<H0.length)(l:CL Ae)(hv:∀x∈l,T.ref 413 [.d x.dv,c] H0=some (.d (.b (p x)),H0))(s:CO)(hn:l.length<=maxLen) :
  T.ref 412 [.d (.l (K1 4) (l.map Ae.dv) s),.f 413 [c]] H0=some (.d (.b (l.any p)),H0):=by
 have e:=qud T (show T.F 419=some (qj4 (K1 4))from hT 419 qn2 rfl) 413 Ae.dv p c [] H0 hH hc l hv s hn;have ea:=qyB p l;rw[qdP T (hT 412 qlx rfl) rfl];simp[qlx,Fr.Aa,e,qcW,qpc hH,ea]
def qO4(T:Tab)(hT:HT T)(h:Nat)(x:Ae)(l:CL Ae)(h2:x.AR.l=l.map Ae.dv)(h4:l.length*56<=140737488355328)(b:CO)(hb:T.val h [x.dv]=some (.d (.b b),false))(g:Ae->CO)(hg:∀a∈l,∀H0,Cl H0->T.ref 407 [.d a.dv,.f h []] H0=some (.d (.b (g a)),H0))(H0:CW)(hH:Cl H0) :
  T.ref 407 [.d x.dv,.f h []] H0=some (.d (.b (b && !(l.any λa=>!(g a)))),H0):=by
 have hC:=qDl hH (K1 4) K0 x.dv h;have hm:=mxl;have e412:=qO5 T hT (λa=>!(g a)) (.p (H0.length+1) 0 0) _ hC (by simp[PV.refs,PV.Av]) l (λa ha=>by
  have e:=hg a ha _ (qDk hC (K1 4) a.dv);rw[qdP T (hT 413 qly rfl) rfl];simp[qly,Fr.Aa,qsl,qnz,qqf,qno,qk3,zzM]at e⊢;rw[e];simp[qcW];have:=qja hC [some (.box (K1 4) (.d a.dv))] (.b (!(g a)));simpa[zzM]using this) x.AR.t (by rw[hm];omega)
 obtain⟨o,m,s,a⟩:=x;obtain⟨a,t⟩:=a;simp only at h2;subst h2;rw[qdP T (hT 407 qjQ rfl) rfl];have hg1:=qja hH [some (.box (K1 4) (.d (Ae.dv ⟨o,m,s,⟨l.map Ae.dv,t⟩⟩))),some (.box K0 (.f h []))];cases b with
 |false=>simp[qjQ,Fr.Aa,qsl,qnz,qqf,qno,qk3,zzM,hb,qcW];exact hg1 _
 |true=>simp[qjQ,Fr.Aa,qsl,qnz,qqf,qno,qk3,zzM,hb,e412,qcW];exact hg1 _
def qBH(T:Tab)(hT:HT T)(h:Nat)(hp:∀a:Ae,a.ok->∃b:CO,T.val h [a.dv]=some (.d (.b b),false)):∀(n:Nat) (x:Ae),SizeOf.sizeOf x.dv<n->x.ok->∃b:CO,∀H0,Cl H0->T.ref 407 [.d x.dv,.f h []] H0=some (.d (.b b),H0):=by
 intro n;induction n with
 |zero=>intro x h;exact absurd h (zzm _)
 |succ n ih=>intro x hn hx;obtain⟨l,h2,h3,h4⟩:=qnb hx;obtain⟨g,hg⟩:=qkv (P:=λa b=>∀H0,Cl H0->T.ref 407 [.d a.dv,.f h []] H0=some (.d (.b b),H0)) (λa ha=>ih a (by have:=qna h2 ha;omega) (h3 a ha));obtain⟨b,hb⟩:=hp x hx;exact⟨_,λH0 hH=>qO4 T hT h x l h2 h4 b hb g hg H0 hH⟩
def HNm(T:Tab):Prop:=∀s:CB,s.length<=maxLen->∃b:CO,T.val 415 [.s s]=some (.d (.b b),false)
def qQS(T:Tab)(hT:HT T)(hN:HNm T)(x:Ae)(hx:x.ok):∃b:CO,T.val 409 [x.dv]=some (.d (.b b),false):=by
 apply qG7;obtain⟨b,e⟩:=hN x.S hx.2.2.1;rw[qab T (hT 409 qlw rfl) rfl];simp[qlw,Fr.Aa,e];repeat' (refine qwv (λh=>?_) (λh=>?_)<;>(try simp at h)<;>(try simp[h,e]))
 all_goals exact qcM (show IsB _ from⟨_,rfl⟩)
def qQM(T:Tab)(hT:HT T)(hN:HNm T)(x:Ae)(hx:x.ok):∃n:Int,T.val 399 [x.dv]=some (.d (I n),false):=by
 obtain⟨n,e1⟩:=qQN T hT _ x (Nat.lt_succ_self _) hx;obtain⟨m,e2⟩:=qQP T hT _ x (Nat.lt_succ_self _) hx;obtain⟨b,e3⟩:=qBH T hT 408 (λa _=>⟨_,qQR T hT a⟩) _ x (Nat.lt_succ_self _) hx;obtain⟨c,e4⟩:=qBH T hT 409 (λa ha=>qQS T hT hN a ha) _ x (Nat.lt_succ_self _) hx;have e3':=e3 [some (.box (K1 4) (.d x.dv))] (by intro r hr;simp[qat,qaO,Obj.refs,PV.refs]at hr);have e4':=e4 [some (.box (K1 4) (.d x.dv))] (by intro r hr;simp[qat,qaO,Obj.refs,PV.refs]at hr);apply qG9;rw[qab T (hT 399 qlv rfl) rfl];simp[qlv,Fr.Aa,e1,e2,e3',e4'];repeat' (refine qwv (λh=>?_) (λh=>?_)<;>(try simp at h)<;>(try simp[h,e1,e2,e3',e4']))
 all_goals exact qcM (show IsI _ from⟨_,rfl⟩)
def qC4(T:Tab)(h8:H8 T)(hc:HCl T 956 (K1 4) 56):∀(n:Nat) (x:Ae),SizeOf.sizeOf x.dv<=n->x.ok->T.val 932 [x.dv]=some (.d x.dv,false):=by
 intro n;induction n with
 |zero=>
  intro x hn _;exfalso;have:0<SizeOf.sizeOf x.dv:=by rw[Ae.dv];simp;omega
  omega
 |succ n ih=>
  intro x hn hx;obtain⟨_,_,_,hX⟩:=hx;obtain⟨h1,l,h2,h3⟩:=qoC hX;obtain⟨o,m,s,a⟩:=x;obtain⟨a,t⟩:=a;simp only at h1 h2 hX;subst h2;have ht:t=false:=by cases hX;rfl
  subst ht;have hb:l.length*56<=140737488355328:=by cases hX with|mk _ _ _ h=>simpa[qbt]using h
  have e0:=qGL hc (es:=l.map Ae.dv) (t:=false) (by simpa[qbt]using hb);have ihl:∀i (h:i<l.length),T.val 932 [(l[i]).dv]=some (.d (l[i]).dv,false):=λi h=>ih l[i] (by have:=List.sizeOf_lt_of_mem (List.mem_map_of_mem (f:=Ae.dv) (zzs h));simp only[Ae.dv,DV.a.sizeOf_spec,List.cons.sizeOf_spec,DV.l.sizeOf_spec]at hn this⊢;omega) (h3 _ (zzs h));rw[qab T (h8 932 F932 rfl) rfl];simp[F932,Fr.Aa,e0,qi5,qep,qai,qan,↓qtv,↓qvd,qc7,qmH,qmS];refine qcq (λi:Nat=>⟨[(11,.d (I i)),(10,.d (I l.length)),(2,.p 0 0 0),(1,.p 1 0 0)],[some (.box (K1 4) (.d (.a [I 0,I 0,.s [],.l (K1 4) [] true]))),some (.box (K1 4) (.a (((Ae.dv ⟨o,m,s,⟨l.map Ae.dv,false⟩⟩).cells.map PV.d).set 3 (.r 2 (K1 4) 0 l.length false)))),some (.sl (K1 4) 0 (l.map Ae.dv))]⟩) (λi=>i<=l.length) (λi=>l.length-i) ?_ 0 (zzK _) (by simp[Ae.dv,qa6]);rintro B-i hi hx;by_cases hlt:i<l.length
  ·have h1:(i:Int)<l.length:=by omega
   have h3:=wr1 (i:=i) (by omega);have hx':=hx (i+1) (by omega) (by omega);have e:=ihl i hlt;simp[qv3,h1,hlt,h3,e,qi5,qep,qai,qan,↓qtv,↓qvd,qc7,qmH,qmS,↓qcu,-qdh,↓qlf,↓qnM,↓qle,↓qcS,zzj];have hse:(l.map Ae.dv).set i l[i].dv=l.map Ae.dv:=by have h0:(l.map Ae.dv)[i]'(by simpa using hlt)=l[i].dv:=List.getElem_map ..;rw[<-h0];exact List.set_getElem_self ..
   rw[hse];exact hx' _ _ (by simp[Ae.dv,qa6])
  ·have:i=l.length:=by omega
   subst this;have h1:¬((l.length:Int)<l.length):=by omega
   simp[qv3,qi5,qep,qai,qan,↓qtv,↓qvd,qc7,qmH,qmS];refine (qOO (xs:=(Ae.dv ⟨o,m,s,⟨l.map Ae.dv,false⟩⟩).cells) ?_).trans rfl;exact qON (qBn _ _) rfl rfl (by simp)
end
section
attribute [local simp ↓] qbm qbn qbg qbz qbp qbJ qbd qbf qbw qbA qbB qbu qbv qbe qby qbj qbH qbE qbR qbQ qbl qbG qbF qbC qbD qay qaR qak qam qal
attribute [local simp] qbh qa3 Ar Az qas qaP chg qaY runs qaM qaX PV.refs PV.Av IOp.okD IOp.Bg qbk Nat.testBit putAt mkA qac qai qan qaj Fr.Aa
set_option maxRecDepth 10000
set_option maxHeartbeats 4000000
end
section
attribute [local simp ↓] qbm qbn qbg qbz qbp qbJ qbd qbf qbw qbA qbB qbu qbv qbe qby qbj qbH qbE qbR qbQ qbl qbG qbF qbC qbD qay qaR qak qam qal
attribute [local simp] qbh qa3 Ar Az qas qaP chg qaY runs qaM qaX PV.refs PV.Av IOp.okD IOp.Bg qbk Nat.testBit putAt mkA qac qai qan qaj Fr.Aa
set_option maxRecDepth 10000
set_option maxHeartbeats 4000000
end
section
attribute [local simp ↓] qbm qbn qbg qbz qbp qbJ qbd qbf qbw qbA qbB qbu qbv qbe qby qbj qbH qbE qbR qbQ qbl qbG qbF qbC qbD qay qaR qak qam qal
attribute [local simp] qbh qa3 Ar Az qas qaP chg qaY runs qaM qaX PV.refs PV.Av IOp.okD IOp.Bg qbk Nat.testBit putAt mkA qac qai qan qaj Fr.Aa
set_option maxRecDepth 10000
set_option maxHeartbeats 4000000
end
section
attribute [local simp ↓] qbm qbn qbg qbz qbp qbJ qbd qbf qbw qbA qbB qbu qbv qbe qby qbj qbH qbE qbR qbQ qb2 qbl qbG qbF qbC qbD qay qaR qak qam qal
attribute [local simp] qbh qa3 Ar Az qas qaP chg qaY runs qaM qaX PV.refs PV.Av IOp.okD IOp.Bg qbk Nat.testBit putAt mkA qac qai qan qaj Fr.Aa
set_option maxRecDepth 10000
set_option maxHeartbeats 4000000
end
section
attribute [local simp ↓] qbm qbn qbg qbz qbp qbJ qbd qbf qbw qbA qbB qbu qbv qbe qby qbj qbH qbE qbR qbQ qb2 qbl qbG qbF qbC qbD qay qaR qak qam qal
attribute [local simp] qbh qa3 Ar Az qas qaP chg qaY runs qaM qaX PV.refs PV.Av IOp.okD IOp.Bg qbk Nat.testBit putAt mkA qac qai qan qaj Fr.Aa
set_option maxRecDepth 10000
set_option maxHeartbeats 4000000
end
section
attribute [local simp ↓] qbm qbn qbg qbz qbp qbJ qbd qbf qbw qbA qbB qbu qbv qbe qby qbj qbH qbE qbR qbQ qb2 qbl qbG qbF qbC qbD qay qaR qak qam qal
attribute [local simp] qbh qa3 Ar Az qas qaP chg qaY runs qaM qaX PV.refs PV.Av IOp.okD IOp.Bg qbk Nat.testBit putAt mkA qac qai qan qaj Fr.Aa
set_option maxRecDepth 10000
set_option maxHeartbeats 4000000
end
section
attribute [local simp ↓] qbm qbn qbg qbz qbp qbJ qbd qbf qbw qbA qbB qbu qbv qbe qby qbj qbH qbE qbR qbQ qb2 qbl qbG qbF qbC qbD qay qaR qak qam qal
attribute [local simp] qbh qa3 Ar Az qas qaP chg qaY runs qaM qaX PV.refs PV.Av IOp.okD IOp.Bg qbk Nat.testBit putAt mkA qac qai qan qaj Fr.Aa
set_option maxRecDepth 10000
set_option maxHeartbeats 4000000
end
section
attribute [local simp ↓] qbm qbn qbg qbz qbp qbJ qbd qbf qbw qbA qbB qbu qbv qbe qby qbj qbH qbE qbR qbQ qb2 qbl qbG qbF qbC qbD qay qaR qak qam qal
attribute [local simp] qbh qa3 Ar Az qas qaP chg qaY runs qaM qaX PV.refs PV.Av IOp.okD IOp.Bg qbk Nat.testBit putAt mkA qac qai qan qaj Fr.Aa
set_option maxRecDepth 10000
set_option maxHeartbeats 4000000
end
section
attribute [local simp ↓] qbm qbn qbg qbz qbp qbJ qbd qbf qbw qbA qbB qbu qbv qbe qby qbj qbH qbE qbR qbQ qb2 qbl qbG qbF qbC qbD qay qaR qak qam qal
attribute [local simp] qbh qa3 Ar Az qas qaP chg qaY runs qaM qaX PV.refs PV.Av IOp.okD IOp.Bg qbk Nat.testBit putAt mkA qac qai qan qaj Fr.Aa
set_option maxRecDepth 10000
set_option maxHeartbeats 4000000
end
section
attribute [local simp ↓] qbm qbn qbg qbz qbp qbJ qbd qbf qbw qbA qbB qbu qbv qbe qby qbj qbH qbE qbR qbQ qb2 qbl qbG qbF qbC qbD qay qaR qak qam qal
attribute [local simp] qbh qa3 Ar Az qas qaP chg qaY runs qaM qaX PV.refs PV.Av IOp.okD IOp.Bg qbk Nat.testBit putAt mkA qac qai qan qaj Fr.Aa
set_option maxRecDepth 10000
set_option maxHeartbeats 4000000
end
end
def qhr{x y:CB}(h:¬x=y):(x==y)=false:=by simpa using h
def qmB:∀x:CB,Op.bytesLess x x=false
 |[]=>rfl
 |a::x=>by simp[Op.bytesLess,qmB x]
def qwI:∀{x y z:CB},Op.bytesLess x y=true->Op.bytesLess y z=true->Op.bytesLess x z=true
 |_,[],_,h,_=>by cases ‹CB› <;> simp[Op.bytesLess]at h
 |_,_::_,[],_,h=>by simp[Op.bytesLess]at h
 |[],_::_,_::_,_,_=>rfl
 |a::x,b::y,c::z,h,k=>by
  simp only[Op.bytesLess,Bool.or_eq_true,zzf,zzq,beq_iff_eq]at h k⊢;rcases h with h|⟨rfl,h⟩
  ·rcases k with k|⟨rfl,k⟩
   ·exact .inl (UInt8.lt_trans h k)
   ·exact .inl h
  ·rcases k with k|⟨rfl,k⟩
   ·exact .inl k
   ·exact .inr ⟨rfl,qwI h k⟩
def qrD:∀{x y:CB},Op.bytesLess x y=false->Op.bytesLess y x=false->x=y
 |[],[],_,_=>rfl
 |[],_::_,h,_=>by simp[Op.bytesLess]at h
 |_::_,[],_,h=>by simp[Op.bytesLess]at h
 |a::x,b::y,h,k=>by simp only[Op.bytesLess,zzD,Bool.and_eq_false_iff,zzE,beq_eq_false_iff_ne]at h k;have e:a=b:=UInt8.le_antisymm (UInt8.not_lt.1 k.1) (UInt8.not_lt.1 h.1);subst e;have h2:=h.2;have k2:=k.2;simp only[ne_eq,not_true_eq_false,false_or]at h2 k2;rw[qrD h2 k2]
def ltL(a b:Ad):CO:=decide (a.AL<b.AL)||((a.AL==b.AL)&&Op.bytesLess a.Au b.Au)
def qtb(a b:Ad):Prop:=a.AL=b.AL/\a.Au=b.Au
def qJ2{a b:Ad}:ltL a b=true↔a.AL<b.AL\/(a.AL=b.AL/\Op.bytesLess a.Au b.Au=true):=by simp[ltL]
def qAg{a b c:Ad}(h:ltL a b=true)(k:ltL b c=true):ltL a c=true:=by
 rw[qJ2]at *
 rcases h with h|⟨h1,h2⟩
 ·rcases k with k|⟨k1,k2⟩<;>exact .inl (by omega)
 ·rcases k with k|⟨k1,k2⟩
  ·exact .inl (by omega)
  ·exact .inr ⟨by omega,qwI h2 k2⟩
def qAh{a b:Ad}(h:ltL a b=false)(k:ltL b a=false):qtb a b:=by
 simp only[ltL,zzD,zzE,Bool.and_eq_false_iff,beq_eq_false_iff_ne]at h k;have e:a.AL=b.AL:=by omega
 refine⟨e,qrD ?_ ?_⟩
 ·rcases h.2 with h|h
  ·exact absurd e h
  ·exact h
 ·rcases k.2 with k|k
  ·exact absurd e.symm k
  ·exact k
def qJ3{a b c:Ad}(h:qtb a b):ltL c a=ltL c b:=by simp[ltL,h.1,h.2]
def qdS(y x:Ad):Ad:=⟨y.AL,w64 (y.Amount+x.Amount),y.Au⟩
def qco:CL Ad->Ad->CL Ad
 |[],x=>[x]
 |y::r,x=>if ltL y x=true then y::qco r x else if ltL x y=true then x::y::r else qdS y x::r
abbrev Srt(l:CL Ad):Prop:=l.Pairwise λa b=>ltL a b=true
def qtp:∀{l:CL Ad} {x y:Ad},y∈qco l x->y∈l\/qtb y x
 |[],x,y,h=>by simp[qco]at h;subst h;exact .inr ⟨rfl,rfl⟩
 |z::r,x,y,h=>by
  unfold qco at h;split at h
  ·rcases List.mem_cons.1 h with rfl|h
   ·exact .inl (zzr ..)
   ·rcases qtp h with h|h
    ·exact .inl (zzi _ h)
    ·exact .inr h
  ·split at h
   ·rcases List.mem_cons.1 h with rfl|h
    ·exact .inr ⟨rfl,rfl⟩
    ·exact .inl h
   ·rename_i h1 h2;rcases List.mem_cons.1 h with rfl|h
    ·have k:=qAh (by simpa using h1) (by simpa using h2);exact .inr k
    ·exact .inl (zzi _ h)
def qu9:∀{l:CL Ad} (x:Ad),Srt l->Srt (qco l x)
 |[],x,_=>by simp[qco,Srt]
 |z::r,x,h=>by
  have h':=List.pairwise_cons.1 h;unfold qco;split
  ·rename_i hz;refine List.pairwise_cons.2 ⟨λy hy=>?_,qu9 x h'.2⟩;rcases qtp hy with hy|hy
   ·exact h'.1 y hy
   ·rw[qJ3 hy];exact hz
  ·split
   ·rename_i hz;refine List.pairwise_cons.2 ⟨λy hy=>?_,h⟩;rcases List.mem_cons.1 hy with rfl|hy
    ·exact hz
    ·exact qAg hz (h'.1 y hy)
   ·exact List.pairwise_cons.2 ⟨λy hy=>(h'.1 y hy),h'.2⟩
def qpp:∀(l:CL Ad) (x:Ad),(qco l x).length<=l.length+1
 |[],x=>by simp[qco]
 |z::r,x=>by
  unfold qco;have:=qpp r x;split
  ·simp;omega
  ·split<;>simp
def qyE(l:CL Ad)(x:Ad):qco l x≠[]:=by
 cases l with
 |nil=>simp[qco]
 |cons z r=>unfold qco;split<;>(try split)<;>simp
def plc(l:CL Ad)(x:Ad):Nat:=(l.takeWhile λy=>ltL y x).length
def qpq:∀(l:CL Ad) (x:Ad),(∀h:plc l x<l.length,ltL x l[plc l x]=true)->qco l x=l.take (plc l x)++x::l.drop (plc l x)
 |[],x,_=>rfl
 |z::r,x,h=>by
  unfold qco;by_cases hz:ltL z x=true
  ·have e:plc (z::r) x=plc r x+1:=by simp[plc,List.takeWhile_cons,hz]
   simp only[e]at h⊢;rw[if_pos hz,qpq r x (λhk=>by simpa using h (by simpa using hk))];rfl
  ·have e:plc (z::r) x=0:=by simp[plc,List.takeWhile_cons,hz]
   simp only[e]at h⊢;rw[if_neg hz,if_pos (by simpa using h (by simp))];rfl
def qsJ:∀(l:CL Ad) (x:Ad) (h:plc l x<l.length),ltL x l[plc l x]=false->qco l x=l.set (plc l x) (qdS l[plc l x] x)
 |[],x,h,_=>by simp at h
 |z::r,x,h,hn=>by
  unfold qco;by_cases hz:ltL z x=true
  ·have e:plc (z::r) x=plc r x+1:=by simp[plc,List.takeWhile_cons,hz]
   simp only[e]at h hn⊢;rw[if_pos hz,qsJ r x (by simpa using h) (by simpa using hn)];simp
  ·have e:plc (z::r) x=0:=by simp[plc,List.takeWhile_cons,hz]
   simp only[e]at h hn⊢;rw[if_neg hz,if_neg (by simpa using hn)];simp
def qqb(l:CL Ad)(x:Ad):plc l x<=l.length:=(List.takeWhile_sublist _).length_le
def qtP:∀(l:CL Ad) (x:Ad) (j:Nat) (h:j<l.length),j<plc l x->ltL l[j] x=true
 |[],x,j,h,_=>by simp at h
 |z::r,x,j,h,hj=>by
  by_cases hz:ltL z x=true
  ·have e:plc (z::r) x=plc r x+1:=by simp[plc,List.takeWhile_cons,hz]
   cases j with
   |zero=>exact hz
   |succ j=>simp only[zzG];exact qtP r x j _ (by omega)
  ·have e:plc (z::r) x=0:=by simp[plc,List.takeWhile_cons,hz]
   omega
def qnx:∀(l:CL Ad) (x:Ad) (h:plc l x<l.length),ltL l[plc l x] x=false
 |[],x,h=>by simp at h
 |z::r,x,h=>by
  by_cases hz:ltL z x=true
  ·have e:plc (z::r) x=plc r x+1:=by simp[plc,List.takeWhile_cons,hz]
   simp only[e]at h⊢;simp only[zzG];exact qnx r x (by simpa using h)
  ·have e:plc (z::r) x=0:=by simp[plc,List.takeWhile_cons,hz]
   simp only[e];simpa using hz
def qOx{l:CL Ad}(hs:Srt l)(x:Ad)(j:Nat)(h:j<l.length)(hj:plc l x<=j):ltL l[j] x=false:=by
 have h0:=qnx l x (by omega);by_cases e:plc l x=j
 ·simp only[e]at h0;exact h0
 ·have:=List.pairwise_iff_getElem.1 hs (plc l x) j (by omega) h (by omega);cases hl:ltL l[j] x with
  |false=>rfl
  |true=>rw[qAg this hl]at h0;cases h0
section
attribute [local simp ↓] qgR qgP qgH qgQ qgE qgI qgF qgG sqK blK lpK qgW qgU qgS qgV qgT qgy qgA qhA qf9 qf7 qf8 qge qfB qfC qfl qfo qfA qfE qfn qfF qfu qfw qfx qfy qfD qfz qfm qfp qfq qfr qfv qf5 qf2 qfI qfH qfQ qfJ qdn qdT qfK qfL qgY qeX qgX qhv qe6 qfX qfY qfR qfT qfS qeN qf6 qeO qfN qf1 qfV qfU qfP qfO qf0 qf3 qfM qfZ qgz qeM qe5 qgo qg9 qcF qgp qeP qeQ qf4 qdh qhu qfs qga qgb qg2 qhw qgZ qgJ qgK qgL qgM qgN qgO qft qgn qeL qiM qiN qiK qiL qiI qhS qiS qiO qjq qiP qjG qkq qfW
attribute [local simp] qcD qg4 qg5 qgu qgv qgj qgk qhs qht qgr qgs rd IOp.adds qar gh nid rgK rdS qgw qgx qha qhb qhf qhg qhj qhe qhi qhh qfg qfe qff qhd qhc qgm qgl qhl qhk qhm qhn qgq qhZ qh0 qds qia qbL qif qjz qi8 qjy qjx
section
attribute [local simp ↓] qbm qbn qbg qbz qbp qbJ qbd qbf qbw qbA qbB qbu qbv qbe qby qbj qbR qbQ qdZ qbH qbE qd8 qd7 qbl qdV qb2 qdW qdY qdX qbG qbF qd1 qd3 qd6 qd5 qd4 qd0 qd2 qd9 qbC qbD
attribute [local simp] qbh qa3 Ar Az qas qaP chg qaY runs qaM qaX PV.refs PV.Av IOp.okD IOp.Bg qbk Nat.testBit
attribute [local simp] gc Fr.keep qaH qaw qat PV.refs PV.Av qaJ gcH qaO Obj.refs PV.ren PV.Bp Obj.ren Heap.obj Fr.ren gh zzd
section
attribute [local simp ↓] qbm qbn qbg qbz qbp qbJ qbd qbf qbw qbA qbB qbu qbv qbe qby qbj qbH qbE qbR qbQ qb2 qbl qbG qbF qbC qbD qay qaR qak qam qal
attribute [local simp] qbh qa3 Ar Az qas qaP chg qaY runs qaM qaX PV.refs PV.Av IOp.okD IOp.Bg qbk Nat.testBit putAt mkA qac qai qan qaj Fr.Aa
attribute [local simp] qc1 qib qa6
set_option maxRecDepth 10000
set_option maxHeartbeats 4000000
end
def qmK(a b:Int):Int:=if a<b then -1 else if b<a then 1 else 0
def qiV(a b:CB):Int:=if Op.bytesLess a b=true then -1 else if Op.bytesLess b a=true then 1 else 0
def cmL(a b:Ad):Int:=if qmK a.AL b.AL=0 then qiV a.Au b.Au else qmK a.AL b.AL
def qFd(a b:Ad):decide (cmL a b<0)=ltL a b:=by
 unfold cmL qmK qiV ltL;by_cases h1:a.AL<b.AL
 ·simp[h1]
 ·by_cases h2:b.AL<a.AL
  ·have:¬a.AL=b.AL:=by omega
   simp[h1,h2,this]
  ·have e:a.AL=b.AL:=by omega
   simp only[e,Int.lt_irrefl,if_false,if_true,decide_false,beq_self_eq_true,Bool.true_and,Bool.false_or];cases Op.bytesLess a.Au b.Au<;>cases Op.bytesLess b.Au a.Au<;>simp
def qFc(a b:Ad)(h:ltL a b=false):(cmL a b==0)=!ltL b a:=by
 unfold cmL qmK qiV;unfold ltL at h⊢;by_cases h1:a.AL<b.AL
 ·simp[h1]at h
 ·by_cases h2:b.AL<a.AL
  ·simp[h1,h2]
  ·have e:a.AL=b.AL:=by omega
   simp only[e,Int.lt_irrefl,if_false,if_true,decide_false,beq_self_eq_true,Bool.true_and,Bool.false_or]at h⊢;rw[h];cases Op.bytesLess b.Au a.Au<;>simp
def qCR(T:Tab)(hN:HN T)(x:CB):T.val 344 [.s x]=some (.d (.b false),false):=by rw[qab T (hN 344 qlu rfl) rfl];simp[qlu,Fr.Aa]
def qmE{R:Type}(a b:CB){d:DV->CK R}:bo (qaL .lss (.d (.s a)) (.d (.s b))) (.h d)=d (.b (Op.bytesLess a b)):=rfl
def qwM{R:Type}(a b:CB){d:DV->CK R}:bo (qaL .gtr (.d (.s a)) (.d (.s b))) (.h d)=d (.b (!(Op.bytesLess a b||a==b))):=rfl
def qGz(a b:CB)(h:Op.bytesLess a b=false):(!(Op.bytesLess a b||a==b))=Op.bytesLess b a:=by
 rw[h,Bool.false_or];cases hb:Op.bytesLess b a with
 |true=>
  have:a≠b:=by intro e;subst e;rw[qmB]at hb;cases hb
  simpa using this
 |false=>simp[qrD h hb]
def qQH(T:Tab)(hN:HN T)(x y:CB):T.val 268 [.s x,.s y]=some (.d (I (qiV x y)),false):=by
 rw[qab T (hN 268 qlt rfl) rfl];have e1:=qCR T hN x;have e2:=qCR T hN y;unfold qiV;simp[qlt,Fr.Aa,e1,e2,↓qmE,↓qwM];refine qbx (λh=>?_) (λh=>?_)
 ·simp[h]
 ·have g:=qGz x y h;rw[h]at g;simp[h,e1,e2,↓qmE,↓qwM,g];refine qbx (λh2=>?_) (λh2=>?_)
  ·rw[h2]at g;simp[h2,g];exact g.symm
  ·rw[h2]at g;simp[h2,g];exact g.symm
structure HC (T:Tab):Prop where
 ato:∀ds,T.val 451 ds=qmw ds
 par:∀ds,T.val 440 ds=qnq ds
 cnt:∀ds,T.val 423 ds=qoK ds
section
variable {R:Type}{E:Env}{ρ:Ab->PV}{H:CW}{id:Nat}{q:PV->CW->CK R}
def qwB{neg:CO}{kd:Nat}{x:Ab}:bo2 (qaa E ρ H id (.BJ neg kd x)) (.h q)=bo (qdK kd (ρ x)) (.h λb=>q (.d (.b (if neg=true then !b else b))) H):=by simp only[qaa];cases qdK kd (ρ x)<;>rfl
end
section
variable {R:Type}{E:Env}{base:Nat}
def qpM{σ:Type}{live:CF}{body:PC}{k:KC R}{Q:R->Prop}(st:σ->St)(inv:σ->Prop)(μ:σ->Nat)
  (hround:∀B,B=body->∀s,inv s->(∀s',inv s'->μ s'<μ s->∀fr H,gc live base ⟨fr,H⟩=st s'->Ans Q (kC E base fr H (.h (.loop live B,k))))->Ans Q (kC E base (st s).fr (st s).H (.h (body,lpK E base live B k))))
  (s:σ) (hs:inv s) {fr:Fr} {H:CW} (h0:gc live base ⟨fr,H⟩=st s):Ans Q (kC E base fr H (.h (.loop live body,k))):=by
 have key:∀(n:Nat) (s:σ),μ s<n->inv s->∀fr H,gc live base ⟨fr,H⟩=st s->Ans Q (kC E base fr H (.h (.loop live body,k))):=by
  intro n;induction n with
  |zero=>intro s h;exact absurd h (zzm _)
  |succ n ih=>intro s hn hv fr H hg;rw[qji,hg];exact hround body rfl s hv λs' hv' hm fr' H' hg'=>ih s' (by omega) hv' fr' H' hg'
 exact key (μ s+1) s (Nat.lt_succ_self _) hs fr H h0
end
def qeY(n:Int):CO:=decide (97<=n)&&decide (n<=122)
def qb3(n:Int):CO:=decide (48<=n)&&decide (n<=57)
def qef(n:Int):CO:=qeY n||(qb3 n||decide (n=95))
def qjt(n:Int):CO:=qef n||(decide (n=46)||decide (n=37))
def qCX(T:Tab)(hT:HT T)(n:Int):T.val 429 [.i .i32 n]=some (.d (.b (qeY n)),false):=by
 rw[qab T (hT 429 qjT rfl) rfl];unfold qeY;by_cases h:97<=n
 ·simp[qjT,Fr.Aa,h]
 ·simp[qjT,Fr.Aa,h]
def qqD(T:Tab)(hT:HT T)(n:Int):T.val 432 [.i .i32 n]=some (.d (.b (qb3 n)),false):=by
 rw[qab T (hT 432 qjU rfl) rfl];unfold qb3;by_cases h:48<=n
 ·simp[qjU,Fr.Aa,h]
 ·simp[qjU,Fr.Aa,h]
def qCY(T:Tab)(hT:HT T)(n:Int):T.val 430 [.i .i32 n]=some (.d (.b (qef n)),false):=by
 have e1:=qCX T hT n;have e2:=qqD T hT n;rw[qab T (hT 430 qhG rfl) rfl];unfold qef;generalize qeY n=b1 at *
 generalize qb3 n=b2 at *
 cases b1 with
 |true=>simp[qhG,Fr.Aa,e1]
 |false=>
  cases b2 with
  |true=>simp[qhG,Fr.Aa,e1,e2]
  |false=>
   by_cases h:n=95
   ·subst h;simp[qhG,Fr.Aa,e1,e2]
   ·have g:=qae h;simp[qhG,Fr.Aa,e1,e2,h,g]
def qQ6(T:Tab)(hT:HT T)(n:Int):T.val 434 [.i .i32 n]=some (.d (.b (qjt n)),false):=by
 have e1:=qCY T hT n;rw[qab T (hT 434 qhH rfl) rfl];unfold qjt;generalize qef n=b1 at *
 cases b1 with
 |true=>simp[qhH,Fr.Aa,e1]
 |false=>
  by_cases h:n=46
  ·subst h;simp[qhH,Fr.Aa,e1]
  ·have g:=qae h;by_cases h2:n=37
   ·subst h2;simp[qhH,Fr.Aa,e1]
   ·have g2:=qae h2;simp[qhH,Fr.Aa,e1,h,g,h2,g2]
def qQ2(T:Tab)(hT:HT T)(n:Int):T.val 426 [.i .i32 n]=some (.d (.b (!decide (n=10))),false):=by
 rw[qab T (hT 426 qjS rfl) rfl];by_cases h:n=10
 ·simp[qjS,Fr.Aa,h,bne]
 ·have g:=qae h;simp[qjS,Fr.Aa,h,g,bne]
def cN(c:UInt8):Int:=(c.toNat:Int)
def qJA(T:Tab)(h:Nat)(p:Int->CO)(hp:∀n,T.val h [.i .i32 n]=some (.d (.b (p n)),false))(s:CB)(hs:s.length<=maxLen)(H0:CW)(hH:Cl H0){k:KC (PV×CW)}{r:CJ}{fr:Fr}{H:CW}
  (he:∀b,k (.exit 0) [(17,.d (.b b)),(5,.d (I (s.takeWhile λc=>p (cN c)).length)),(1,.f h []),(0,.d (.s s))] H0=r)
  (h0:gc [0,1,5] H0.length ⟨fr,H⟩=⟨[(5,.d (I 0)),(1,.f h []),(0,.d (.s s))],H0⟩) :
  kC T.env H0.length fr H (.h (.loop [0,1,5] qob,k))=r:=by
 refine qcq (λi:Nat=>⟨[(5,.d (I i)),(1,.f h []),(0,.d (.s s))],H0⟩) (λi=>i<=s.length/\(s.takeWhile λc=>p (cN c)).length=i+((s.drop i).takeWhile λc=>p (cN c)).length) (λi=>s.length-i) ?_ 0 ⟨zzK _,by simp⟩ h0;rintro B-i ⟨hi,ha⟩ hx;have hm:=mxl;by_cases hlt:i<s.length
 ·have h1:(i:Int)<s.length:=by omega
  have h3:=wr1 (i:=i) (by omega);have w32:IntKind.i32.wrap ((s[i].toNat:Nat):Int)=cN s[i]:=by rw[IntKind.wrap_i32];have:=s[i].toNat_lt;unfold cN;omega
  have e:=hp (cN s[i]);rw[zzz hlt,List.takeWhile_cons]at ha;cases hk:p (cN s[i])with
  |true=>rw[hk]at e;rw[hk,if_pos rfl,zzn]at ha;have hx':=hx (i+1) ⟨by omega,by omega⟩ (by omega);simp[qob,h1,hlt,h3,↓qbM,↓qbc,↓qay,↓qaR,w32,e];exact hx' _ _ (by rw[qmV _ hH (by simp[qaw,Fr.keep,PV.refs,PV.Av,gh])];simp[Fr.keep,gh])
  |false=>rw[hk]at e;rw[hk]at ha;simp only[zzg,if_false,List.length_nil,Nat.add_zero]at ha;rw[ha]at he;have he':=he false;simp[qob,h1,hlt,h3,↓qbM,↓qbc,↓qay,↓qaR,w32,e];exact he'
 ·have:i=s.length:=by omega
  subst this;rw[zzF (zzt _),List.takeWhile_nil,List.length_nil,Nat.add_zero]at ha;rw[ha]at he;have he':=he false;have h1:¬((s.length:Int)<s.length):=by omega
  simp[qob];exact he'
def qCH{α:Type}(p:α->CO)(s:CL α):s.take (s.takeWhile p).length=s.takeWhile p:=by
 induction s with
 |nil=>rfl
 |cons x r ih=>
  rw[List.takeWhile_cons];by_cases h:p x=true
  ·rw[if_pos h,zzn,List.take_succ_cons,ih]
  ·rw[if_neg h];rfl
def qqz{α:Type}(p:α->CO)(s:CL α):(s.takeWhile p).length<=s.length:=by have:=congrArg List.length (qCH p s);rw[zzI]at this;omega
def qnD(T:Tab)(hT:HT T)(h:Nat)(p:Int->CO)(hp:∀n,T.val h [.i .i32 n]=some (.d (.b (p n)),false))(s:CB)(hs:s.length<=maxLen)(H0:CW)(hH:Cl H0) :
  T.ref 425 [.d (.s s),.f h []] H0=some (.d (.s (s.takeWhile λc=>p (cN c))),H0):=by
 have lp:=λk r fr H=>@qJA T h p hp s hs H0 hH k r fr H;have hl:=qqz (λc=>p (cN c)) s;have ht:=qCH (λc=>p (cN c)) s;generalize s.takeWhile (λc=>p (cN c))=w at *
 have hl':(w.length:Int)<=s.length:=by omega
 rw[qdP T (hT 425 F425 rfl) rfl];simp[F425,Fr.Aa];refine lp _ _ _ _ (λb=>?_) (by rw[qmV _ hH (by simp[qaw,Fr.keep,PV.refs,PV.Av,gh])];simp[Fr.keep,gh]);simp[hl,hl',ht,qcW,qpc hH]
def qms(s:CB):Prop:=∃(c:UInt8) (r:CB),s=c::r/\qeY (cN c)=true
def qpH{s:CB}{i:Nat}(h:qms s)(hi:i=0)(hlt:i<s.length):¬((s[i].toNat:Nat):Int)=32/\¬((s[i].toNat:Nat):Int)=9/\¬((s[i].toNat:Nat):Int)=10/\¬((s[i].toNat:Nat):Int)=35:=by obtain⟨c,r,rfl,h⟩:=h;subst hi;simp only[qeY,cN,zzf,zzq]at h;have h1:(97:Int)<=((c.toNat:Nat):Int)   :=of_decide_eq_true h.1;have h2:((c.toNat:Nat):Int)<=122:=of_decide_eq_true h.2;show ¬((c.toNat:Nat):Int)=32/\¬((c.toNat:Nat):Int)=9/\¬((c.toNat:Nat):Int)=10/\¬((c.toNat:Nat):Int)=35;omega
def qqQ(s:CB)(r:PV×CO):Prop:=∃n:Nat,r=(.d (I n),false)/\n<=s.length/\(qms s->n=0)
def qQZ(T:Tab)(hT:HT T)(s:CB)(hs:s.length<=2048):Ans (qqQ s) (T.val 422 [.s s]):=by
 have hm:=mxl;rw[qab T (hT 422 F422 rfl) rfl];simp[F422,Fr.Aa];refine qpM (λi:Nat=>⟨[(3,.d (I i)),(0,.d (.s s))],[]⟩) (λi=>i<=s.length/\(qms s->i=0)) (λi=>s.length-i) ?_ 0 ⟨zzK _,λ_=>rfl⟩ (by simp);rintro B-i ⟨hi,hi0⟩ hx;by_cases hlt:i<s.length
 ·have h1:(i:Int)<s.length:=by omega
  have h1':(i:Int)<=s.length:=by omega
  have hle:i<=s.length:=by omega
  have h3:=wr1 (i:=i) (by omega);have e:=qnD T hT 426 (λn=>!decide (n=10)) (λn=>qQ2 T hT n) (s.drop i) (by rw[zzJ,hm];omega) [] qqJ;obtain⟨w,hw⟩:∃w,(s.drop i).takeWhile (λc=>!decide (cN c=10))=w:=⟨_,rfl⟩;have hwl:=qqz (λc=>!decide (cN c=10)) (s.drop i);rw[hw,zzJ]at hwl;simp only[hw]at e;have h5:IntKind.i64.wrap ((i:Int)+(w.length:Int))=((i+w.length:Nat):Int):=by rw[wrI (by omega) (by omega)];omega
  by_cases b1:((s[i].toNat:Nat):Int)=32
  ·have hx':=hx (i+1) ⟨by omega,λh=>absurd b1 (qpH h (hi0 h) hlt).1⟩ (by omega);simp[qka,h1,hlt,h3,↓qbM,↓qbc,b1];exact hx' _ _ (by simp)
  have g1:=qae b1;by_cases b2:((s[i].toNat:Nat):Int)=9
  ·have hx':=hx (i+1) ⟨by omega,λh=>absurd b2 (qpH h (hi0 h) hlt).2.1⟩ (by omega);simp[qka,h1,hlt,h3,↓qbM,↓qbc,b1,g1,b2];exact hx' _ _ (by simp)
  have g2:=qae b2;by_cases b3:((s[i].toNat:Nat):Int)=10
  ·have hx':=hx (i+1) ⟨by omega,λh=>absurd b3 (qpH h (hi0 h) hlt).2.2.1⟩ (by omega);simp[qka,h1,hlt,h3,↓qbM,↓qbc,b1,g1,b2,g2,b3];exact hx' _ _ (by simp)
  have g3:=qae b3;by_cases b4:((s[i].toNat:Nat):Int)=35
  ·have hpos:0<w.length:=by rw[zzz hlt,List.takeWhile_cons,if_pos (by unfold cN;rw[b4];decide)]at hw;rw[<-hw];simp
   have hx':=hx (i+w.length) ⟨by omega,λh=>absurd b4 (qpH h (hi0 h) hlt).2.2.2⟩ (by omega);simp[qka,h1,h1',hlt,hle,h3,↓qbM,↓qbc,b1,g1,b2,g2,b3,g3,b4,e,h5];exact hx' _ _ (by simp)
  have g4:=qae b4;simp[qka,h1,hlt,h3,↓qbM,↓qbc,b1,g1,b2,g2,b3,g3,b4,g4];exact qcM (show qqQ s _ from⟨i,rfl,hi,hi0⟩)
 ·have h1:¬((i:Int)<s.length):=by omega
  simp[qka,h1];exact qcM (show qqQ s _ from⟨i,rfl,hi,hi0⟩)
def qQ0(T:Tab)(hT:HT T)(s:CB)(hs:s.length<=2048):∃n:Nat,n<=s.length/\T.val 422 [.s s]=some (.d (I n),false)/\(qms s->n=0):=by obtain⟨r,h1,n,h2,h3,h4⟩:=qQZ T hT s hs;exact⟨n,h3,by rw[h1,h2],h4⟩
def qjf(s:CB):CO:=match s with
 |[]=>false
 |c::r=>decide ((c::r).takeWhile (λc=>qb3 (cN c))=c::r)&&(decide (r=[]) || !decide (cN c=48))
def qCZ(T:Tab)(hT:HT T)(s:CB)(hs:s.length<=2048):T.val 439 [.s s]=some (.d (.b (qjf s)),false):=by
 have hm:=mxl;have e:=qnD T hT 432 qb3 (λn=>qqD T hT n) s (by rw[hm];omega) [] qqJ;rw[qab T (hT 439 qe9 rfl) rfl];cases s with
 |nil=>simp[qe9,Fr.Aa,qjf]
 |cons c r=>
  have hI:qjf (c::r)=(decide ((c::r).takeWhile (λc=>qb3 (cN c))=c::r)&&(decide (r=[]) || !decide (cN c=48))):=rfl;rw[hI];generalize (c::r).takeWhile (λc=>qb3 (cN c))=w at *
  by_cases h1:w=c::r
  ·subst h1;by_cases h2:r=[]
   ·subst h2;simp[qe9,Fr.Aa,e]
   ·have l0:r.length≠0:=λh=>h2 (List.length_eq_zero_iff.1 h);have l1:¬((r.length:Int)+1=1):=by omega
    have g1:=qae l1;unfold cN;by_cases h3:((c.toNat:Nat):Int)=48
    ·simp[qe9,Fr.Aa,e,h2,l0,l1,g1,↓qbM,↓qbc,h3,bne]
    ·have g3:=qae h3;simp[qe9,Fr.Aa,e,h2,l0,l1,g1,↓qbM,↓qbc,h3,g3,bne]
  ·have g1:=qhr h1;simp[qe9,Fr.Aa,e,h1,g1]
def qvo{α:Type}{p:α->CO}{x:α}:∀{l:CL α},x∈l.takeWhile p->p x=true
 |[],h=>by cases h
 |y::l,h=>by
  rw[List.takeWhile_cons]at h;by_cases c:p y=true
  ·rw[if_pos c]at h;rcases List.mem_cons.1 h with h|h
   ·rw[h];exact c
   ·exact qvo h
  ·rw[if_neg c]at h;cases h
def qG6{s:CB}(h:qjf s=true):s≠[]/\∀c∈s,qb3 (cN c)=true:=by
 cases s with
 |nil=>cases h
 |cons c r=>simp only[qjf,zzf,zzq]at h;refine⟨by simp,λd hd=>?_⟩;rw[<-h.1]at hd;exact qvo (p:=λc=>qb3 (cN c)) hd
def qxo{c:UInt8}(h:qb3 (cN c)=true):48<=c.toNat/\c.toNat<=57:=by simp only[qb3,zzf,zzq]at h;unfold cN at h;omega
def qxg:∀(l:CB) (a:Nat),(∀c∈l,qb3 (cN c)=true)->∃n,Lib.decFrom a l=some n
 |[],a,_=>⟨a,rfl⟩
 |c::r,a,h=>by
  have hc:=h c (by simp);have hc:=qxo hc;have e:Lib.digitVal c=some (c.toNat-48):=by unfold Lib.digitVal;rw[if_pos (by omega)]
  obtain⟨n,hn⟩:=qxg r (a*10+(c.toNat-48)) (λd hd=>h d (by simp[hd]));exact⟨n,by rw[Lib.decFrom,e];exact hn⟩
def qEs{l:CB}(h0:l≠[])(h:∀c∈l,qb3 (cN c)=true):∃v,Lib.atoi l=some v:=by
 cases l with
 |nil=>exact absurd rfl h0
 |cons c r=>
  have hc:=h c (by simp);have hc:=qxo hc;obtain⟨n,hn⟩:=qxg (c::r) 0 h;refine⟨(n:Int),?_⟩;have b1:(c==45)=false:=by simp only[beq_eq_false_iff_ne,ne_eq];intro e;rw[e]at hc;revert hc;decide
  have b2:(c==43)=false:=by simp only[beq_eq_false_iff_ne,ne_eq];intro e;rw[e]at hc;revert hc;decide
  rw[Lib.atoi,b1,b2];simp only[zzg,if_false,Lib.decNat,List.isEmpty_cons,hn,Option.map_some]
def qyU(c:Nat):∀(l:CB) (k i:Nat),ixB c l k=some i->k<=i/\i<k+l.length
 |[],k,i,h=>by cases h
 |x::r,k,i,h=>by
  rw[ixB]at h;by_cases e:Nat.beq x.toNat c=true
  ·rw[if_pos e]at h;injection h with h;subst h;simp
  ·rw[if_neg e]at h;have:=qyU c r (k+1) i h;simp only[zzn];omega
def ixI(c:Nat)(s:CB):Int:=match ixB c s 0 with|some i=>(i:Int)|none=>-1
def qHe(c:Nat)(s:CB):ixI c s=-1\/∃i:Nat,ixI c s=(i:Int)/\i<s.length:=by
 unfold ixI;cases h:ixB c s 0 with
 |none=>exact .inl rfl
 |some i=>exact .inr ⟨i,rfl,by have:=qyU c s 0 i h;omega⟩
def qQ9(T:Tab)(hT:HT T)(s:CB):T.val 443 [.s s,.i .u8 46]=some (.d (I (ixI 46 s)),false):=by have e:qeD 2 [.d (.s s),.d (.i .u8 46)]=some (.d (I (ixI 46 s))):=rfl;rw[qab T (hT 443 qlB rfl) rfl];simp[qlB,Fr.Aa,↓qmy,e]
def qQ7(T:Tab)(hT:HT T)(s:CB):T.val 436 [.s s,.s [46]]=some (.d (I (ixI 46 s)),false):=by
 have e:=qQ9 T hT s;by_cases hs:[46]=s
 ·subst hs;rw[show ixI 46 [46]=0 from rfl,qab T (hT 436 qiv rfl) rfl];simp[qiv,Fr.Aa]
 ·have g:=qhr hs;rw[qab T (hT 436 qiv rfl) rfl];simp[qiv,Fr.Aa,hs,g,↓qbM,↓qbc,e]
def qRf(T:Tab)(hT:HT T)(s:CB)(hs:s.length<=2048):∃a b f,T.val 461 [.s s,.s [46]]=some (.t [.d (.s a),.d (.s b),.d (.b f)],false)/\(f=false->b=[])/\b.length<=2048/\a.length<=2048:=by
 have e:=qQ7 T hT s;rcases qHe 46 s with h|⟨i,h,hi⟩
 ·refine⟨s,[],false,?_,λ_=>rfl,by simp,hs⟩;rw[h]at e;rw[qab T (hT 461 qiw rfl) rfl];simp[qiw,Fr.Aa,e]
 ·refine⟨s.take i,s.drop (i+1),true,?_,(λh=>by cases h),by rw[zzJ];omega,by rw[zzI];omega⟩;rw[h]at e;have w:IntKind.i64.wrap ((i:Int)+1)=((i+1:Nat):Int):=by rw[wrI (by omega) (by omega)];omega
  have g1:(i:Int)<=s.length:=by omega
  have g2:i<=s.length:=by omega
  have g3:((i+1:Nat):Int)<=s.length:=by omega
  have g4:i+1<=s.length:=by omega
  rw[qab T (hT 461 qiw rfl) rfl];obtain⟨j,hj⟩:∃j,i+1=j:=⟨_,rfl⟩;rw[hj]at w g3 g4⊢;have g5:(0:Int)<=(j:Int):=by omega
  simp[qiw,Fr.Aa,e,↓qbm,↓qbn,↓qbg,↓qbz,↓qbp,↓qbJ,↓qbd,qbh,↓qbf,↓qbw,↓qbA,↓qbB,↓qbu,↓qbv,↓qbe,↓qby,↓qbj,↓qbR,↓qbQ,↓qdZ,↓qbH,↓qbE,↓qd8,↓qd7,↓qbl,↓qdV,↓qb2,↓qdW,↓qdY,↓qdX,↓qbG,↓qbF,↓qd1,↓qd3,↓qd6,↓qd5,↓qd4,↓qd0,↓qd2,↓qd9,↓qbC,↓qbD,qa3,Ar,Az,qas,qaP,chg,qaY,runs,qaM,qaX,PV.refs,PV.Av,IOp.okD,IOp.Bg,qbk,Nat.testBit,w,g1,g2,g3,g4,g5,↓qeM,↓qe5]
def qRd(T:Tab)(hT:HT T)(s:CB)(hs:s.length<=2048):∃a b f,T.val 450 [.s s,.s [46]]=some (.t [.d (.s a),.d (.s b),.d (.b f)],false)/\(f=false->b=[])/\b.length<=2048/\a.length<=2048:=by obtain⟨a,b,f,e,h⟩:=qRf T hT s hs;refine⟨a,b,f,?_,h⟩;rw[qab T (hT 450 qlD rfl) rfl];simp[qlD,Fr.Aa,e]
def qRg(T:Tab)(hT:HT T)(s:CB)(hs:s.length<=2048):∃b:CO,T.val 468 [.s s,.s [37]]=some (.d (.b b),false)/\(b=true->1<=s.length):=by
 rw[qab T (hT 468 qjW rfl) rfl];by_cases h:1<=s.length
 ·have w:IntKind.i64.wrap ((s.length:Int)-1)=((s.length-1:Nat):Int):=by rw[wrI (by omega) (by omega)];omega
  obtain⟨j,hj⟩:∃j,s.length-1=j:=⟨_,rfl⟩;rw[hj]at w;have g1:(j:Int)<=s.length:=by omega
  have g2:j<=s.length:=by omega
  have g3:(1:Int)<=s.length:=by omega
  refine⟨(s.drop j==[37]),?_,λ_=>h⟩;simp[qjW,Fr.Aa,g3,w,g1,g2]
 ·have g3:¬((1:Int)<=s.length):=by omega
  refine⟨false,?_,(λh=>by cases h)⟩;simp[qjW,Fr.Aa,g3]
def qRe(T:Tab)(hT:HT T)(s:CB)(hs:s.length<=2048):∃a b,T.val 460 [.s s,.s [37]]=some (.t [.d (.s a),.d (.b b)],false)/\a.length<=2048:=by
 obtain⟨b,e,hb⟩:=qRg T hT s hs;rw[qab T (hT 460 qjV rfl) rfl];cases b with
 |false=>refine⟨s,false,?_,hs⟩;simp[qjV,Fr.Aa,e]
 |true=>
  have h:=hb rfl;have w:IntKind.i64.wrap ((s.length:Int)-1)=((s.length-1:Nat):Int):=by rw[wrI (by omega) (by omega)];omega
  obtain⟨j,hj⟩:∃j,s.length-1=j:=⟨_,rfl⟩;rw[hj]at w;have g1:(j:Int)<=s.length:=by omega
  have g2:j<=s.length:=by omega
  refine⟨s.take j,true,?_,by rw[zzI];omega⟩;simp[qjV,Fr.Aa,e,w,g1,g2]
def qRb(T:Tab)(hT:HT T)(s:CB)(hs:s.length<=2048):∃a b,T.val 449 [.s s,.s [37]]=some (.t [.d (.s a),.d (.b b)],false)/\a.length<=2048:=by obtain⟨a,b,e,h⟩:=qRe T hT s hs;refine⟨a,b,?_,h⟩;rw[qab T (hT 449 qlC rfl) rfl];simp[qlC,Fr.Aa,e]
def qdL(p:CB):CB:=p++List.replicate (4-p.length) 48
def qz9(T:Tab)(w p:CB)(hp:p.length<=4){k:KC (PV×CO)}{r:CG}{fr:Fr}{H:CW}
  (he:k (.exit 0) [(60,.d (.b false)),(7,.d (.s (qdL p))),(6,.d (.s w))] []=r)
  (h0:gc [6,7] 0 ⟨fr,H⟩=⟨[(7,.d (.s p)),(6,.d (.s w))],[]⟩) :
  kC T.env 0 fr H (.h (.loop [6,7] qqZ,k))=r:=by
 refine qcq (λq:CB=>⟨[(7,.d (.s q)),(6,.d (.s w))],[]⟩) (λq=>q.length<=4/\qdL q=qdL p) (λq=>4-q.length) ?_ p ⟨hp,rfl⟩ h0;rintro B-q ⟨hq,ha⟩ hx;by_cases hlt:q.length<4
 ·have h1:(q.length:Int)<4:=by omega
  have hx':=hx (q++[48]) ⟨by simp;omega,by
   rw[<-ha];unfold qdL;rw[zzM,zzp,zzn,List.length_nil,show 4-q.length=4-(q.length+(0+1))+1 by omega,List.replicate_succ];rfl⟩ (by simp;omega)
  have h2:q.length+1<4611686018427387904:=by omega
  simp[qqZ,h1,h2];exact hx' _ _ (by simp)
 ·have h1:¬((q.length:Int)<4):=by omega
  have e:qdL p=q:=by rw[<-ha];unfold qdL;rw[show 4-q.length=0 by omega];simp
  rw[e]at he;simp[qqZ,h1];exact he
def qOr{p:CB}(h:∀c∈p,qb3 (cN c)=true):∀c∈qdL p,qb3 (cN c)=true:=by
 intro c hc;rcases zzB.1 hc with hc|hc
 ·exact h c hc
 ·rw[(List.mem_replicate.1 hc).2];decide
def qtK{p:CB}(h:p.length<=4):(qdL p).length=4:=by unfold qdL;rw[zzp,List.length_replicate];omega
def qQ8(T:Tab)(hT:HT T)(hC:HC T)(s:CB)(hs:s.length<=2048):∃p:Int×Int,T.val 441 [.s s]=some (two p):=by
 obtain⟨t,ok,e449,ht⟩:=qRb T hT s hs;obtain⟨a,b,f,e450,hf,hb,ha⟩:=qRd T hT t ht;have e439:=qCZ T hT a ha;have hm:=mxl;have e425:=qnD T hT 432 qb3 (λn=>qqD T hT n) b (by rw[hm];omega) [] qqJ;rw[qab T (hT 441 F441 rfl) rfl];unfold two;cases ok with
 |false=>refine⟨(0,2),?_⟩;simp[F441,Fr.Aa,e449,e450]
 |true=>
  cases hi:qjf a with
  |false=>rw[hi]at e439;refine⟨(0,2),?_⟩;simp[F441,Fr.Aa,e449,e450,e439]
  |true=>
   rw[hi]at e439;obtain⟨a0,ad⟩:=qG6 hi;have tail:∀(p:CB),p.length<=4->(∀c∈p,qb3 (cN c)=true)->¬(3<a.length)->∃v:Int,T.val 451 [.s (a++qdL p)]=some (.t [.d (I v),.d .ni],false):=by
    intro p hp hd h3;obtain⟨v,hv⟩:=qEs (l:=a++qdL p) (by simp[a0]) (λc hc=>by
     rcases zzB.1 hc with hc|hc
     ·exact ad c hc
     ·exact qOr hd c hc)
    refine⟨v,?_⟩;rw[hC.ato];simp only[qmw];rw[if_pos (by rw[zzp,qtK hp];omega),hv]
   cases f with
   |false=>
    have hbn:=hf rfl;subst hbn;by_cases h3:3<a.length
    ·have g3:(3:Int)<a.length:=by omega
     refine⟨(0,1),?_⟩;simp[F441,Fr.Aa,e449,e450,e439,g3,h3]
    ·have g3:¬((3:Int)<a.length):=by omega
     obtain⟨v,ev⟩:=tail [] (by simp) (by simp) h3;have lp:=λk r fr H=>@qz9 T a [] (by simp) k r fr H;have pl:=qtK (p:=[]) (by simp);generalize qdL []=q at *
     have hlen:a.length+4<4611686018427387904:=by omega
     by_cases hv:1000000<v
     ·refine⟨(0,1),?_⟩;simp[F441,Fr.Aa,e449,e450,e439,g3,h3];refine lp _ _ _ _ ?_ (by simp);simp[pl,hlen,ev,hv]
     ·refine⟨(v,0),?_⟩;simp[F441,Fr.Aa,e449,e450,e439,g3,h3];refine lp _ _ _ _ ?_ (by simp);simp[pl,hlen,ev,hv]
   |true=>
    by_cases b0:b=[]
    ·refine⟨(0,2),?_⟩;simp[F441,Fr.Aa,e449,e450,e439,b0]
    have gb0:=qhr b0;by_cases b4:4<b.length
    ·have g4:(4:Int)<b.length:=by omega
     refine⟨(0,2),?_⟩;simp[F441,Fr.Aa,e449,e450,e439,b0,gb0,b4,g4]
    have g4:¬((4:Int)<b.length):=by omega
    by_cases bd:b.takeWhile (λc=>qb3 (cN c))=b
    ·rw[bd]at e425;have hbd:∀c∈b,qb3 (cN c)=true:=λc hc=>by rw[<-bd]at hc;exact qvo (p:=λc=>qb3 (cN c)) hc
     have l0:b.length≠0:=λh=>b0 (List.length_eq_zero_iff.1 h);have w:IntKind.i64.wrap ((b.length:Int)-1)=((b.length-1:Nat):Int):=by rw[wrI (by omega) (by omega)];omega
     obtain⟨j,hj⟩:∃j,b.length-1=j:=⟨_,rfl⟩;rw[hj]at w;have hjl:j<b.length:=by omega
     obtain⟨c,hc⟩:∃c,b[j]? = some c:=⟨_,zze hjl⟩;by_cases bc:((c.toNat:Nat):Int)=48
     ·refine⟨(0,2),?_⟩;simp[F441,Fr.Aa,e449,e450,e439,b0,gb0,b4,g4,e425,bne,w,hc,↓qbM,↓qbc,bc]
     ·have gbc:=qae bc;by_cases h3:3<a.length
      ·have g3:(3:Int)<a.length:=by omega
       refine⟨(0,1),?_⟩;simp[F441,Fr.Aa,e449,e450,e439,b0,gb0,b4,g4,e425,bne,w,hc,↓qbM,↓qbc,bc,gbc,g3,h3]
      ·have g3:¬((3:Int)<a.length):=by omega
       obtain⟨v,ev⟩:=tail b (by omega) hbd h3;have lp:=λk r fr H=>@qz9 T a b (by omega) k r fr H;have pl:=qtK (p:=b) (by omega);generalize qdL b=q at *
       have hlen:a.length+4<4611686018427387904:=by omega
       by_cases hv:1000000<v
       ·refine⟨(0,1),?_⟩;simp[F441,Fr.Aa,e449,e450,e439,b0,gb0,b4,g4,e425,bne,w,hc,↓qbM,↓qbc,bc,gbc,g3,h3];refine lp _ _ _ _ ?_ (by simp);simp[pl,hlen,ev,hv]
       ·refine⟨(v,0),?_⟩;simp[F441,Fr.Aa,e449,e450,e439,b0,gb0,b4,g4,e425,bne,w,hc,↓qbM,↓qbc,bc,gbc,g3,h3];refine lp _ _ _ _ ?_ (by simp);simp[pl,hlen,ev,hv]
    ·have gbd:=qhr bd;generalize b.takeWhile (λc=>qb3 (cN c))=w at *
     refine⟨(0,2),?_⟩;simp[F441,Fr.Aa,e449,e450,e439,b0,gb0,b4,g4,e425,bd,gbd,bne]
structure A9 where
 (Kind Line:Int)
 Text:List UInt8
def A9.cells(x:A9):Cy:=[I x.Kind,I x.Line,.s x.Text]
def A9.dv(x:A9):DV:=.a [I x.Kind,I x.Line,.s x.Text]
@[simp] def A9.fits(x:A9):Sim.fits (K1 3) (.d (A9.dv x))=true:=rfl
@[simp] def A9.AC(x:A9)(H:CW):Sim.AC H (.d (A9.dv x))=some (.d (A9.dv x),false):=rfl
@[simp] def A9.clen(x:A9):(A9.dv x).cells.length=3:=rfl
@[simp] def A9.aof(x:A9):DV.a (A9.cells x)=A9.dv x:=rfl
@[simp] def A9.ccl(x:A9):(A9.cells x).length=3:=rfl
@[simp] def A9.c0(x:A9):(A9.dv x).cells[0]? = some (I x.Kind):=rfl
@[simp] def A9.c1(x:A9):(A9.dv x).cells[1]? = some (I x.Line):=rfl
@[simp] def A9.c2(x:A9):(A9.dv x).cells[2]? = some (.s x.Text):=rfl
def qhz(k:Int)(s:CB)(e:Int):PV×CO:=(.t [.d (.a [I k,I 0,.s s]),.d (I e)],false)
def qOs(T:Tab)(hC:HC T)(s:CB)(hs:s.length<=2048):(∃v:Int,T.val 440 [.s s,I 10,I 64]=some (.t [.d (I v),.d .ni],false))\/(∃v:Int,T.val 440 [.s s,I 10,I 64]=some (.t [.d (I v),.d (.tok 0)],false)):=by
 rw[hC.par];simp only[qnq];rw[if_pos (by refine⟨?_,?_,?_⟩<;>first|trivial|omega)];cases Lib.parseIntB 64 s with
 |ok v=>exact .inl ⟨v,rfl⟩
 |range=>exact .inr ⟨_,rfl⟩
 |_=>exact .inr ⟨_,rfl⟩
def qQ5(T:Tab)(hT:HT T)(hC:HC T)(s:CB)(hs:s.length<=2048):∃k t e,T.val 433 [.s s]=some (qhz k t e)/\(e=0->t=s)/\k≠1:=by
 have e439:=qCZ T hT s hs;obtain⟨p,e441⟩:=qQ8 T hT hC s hs;unfold two at e441;cases hi:qjf s with
 |true=>
  rw[hi]at e439;rcases qOs T hC s hs with ⟨v,e⟩|⟨v,e⟩
  ·refine⟨2,s,0,?_,λ_=>rfl,by decide⟩;rw[qab T (hT 433 qdB rfl) rfl];simp[qdB,Fr.Aa,e439,e,↓qwB,qdK,↓qak,↓qam,↓qal,putAt,mkA,qac,qai,qan,qaj,qbK,qhz]
  ·refine⟨0,[],6,?_,(λh=>by cases h),by decide⟩;rw[qab T (hT 433 qdB rfl) rfl];simp[qdB,Fr.Aa,e439,e,↓qwB,qdK,↓qak,↓qam,↓qal,putAt,mkA,qac,qai,qan,qaj,qbK,qhz]
 |false=>
  rw[hi]at e439;by_cases h0:p.2=0
  ·refine⟨3,s,0,?_,λ_=>rfl,by decide⟩;rw[qab T (hT 433 qdB rfl) rfl];simp[qdB,Fr.Aa,e439,e441,h0,↓qak,↓qam,↓qal,putAt,mkA,qac,qai,qan,qaj,qbK,qhz]
  ·have g0:=qae h0;by_cases h1:p.2=1
   ·refine⟨0,[],6,?_,(λh=>by cases h),by decide⟩;rw[qab T (hT 433 qdB rfl) rfl];simp[qdB,Fr.Aa,e439,e441,h1,↓qak,↓qam,↓qal,putAt,mkA,qac,qai,qan,qaj,qbK,qhz]
   ·have g1:=qae h1;refine⟨0,[],2,?_,(λh=>by cases h),by decide⟩;rw[qab T (hT 433 qdB rfl) rfl];simp[qdB,Fr.Aa,e439,e441,h0,g0,h1,g1,↓qak,↓qam,↓qal,putAt,mkA,qac,qai,qan,qaj,qbK,qhz]
def wordsL:CL (CB):=[[112,114,111,100,117,99,116],[99,117,114,114,101,110,99,121],[99,97,108,101,110,100,97,114],[102,114,111,109],[101,118,101,114,121],[111,118,101,114,100,114,97,102,116],[116,97,120],[99,114,101,100,105,116],[100,101,98,105,116],[109,97,114,103,105,110,97,108],[119,104,111,108,101],[97,99,116,51,54,48],[97,99,116,51,54,53],[97,99,116,117,97,108],[116,104,105,114,116,121],[100,111,119,110],[117,112],[102,108,111,111,114],[99,101,105,108],[104,97,108,102,95,117,112],[104,97,108,102,95,101,118,101,110],[107,101,101,112],[100,114,111,112],[102,101,101],[108,105,109,105,116],[119,104,101,110],[97,109,111,117,110,116,95,111,102],[115,105,110,103,108,101],[100,97,105,108,121],[109,111,110,116,104,108,121],[109,111,110,116,104],[114,101,116,117,114,110],[99,108,111,115,101],[101,118,101,110,116],[105,102],[116,104,101,110],[101,108,115,101],[97,110,100],[111,114],[110,111,116],[109,105,110],[109,97,120]]
structure HWd (T:Tab):Prop where
 words:∃(t o:Bool),T.val 438 []=some (.d (.l K0 (wordsL.map DV.s) t),o)
 marks:∃(ms:List (List UInt8)) (t o:Bool),T.val 435 []=some (.d (.l K0 (ms.map DV.s) t),o)/\ms.length<=1000/\∀m∈ms,m≠[]
def qqR(ws:CL (CB))(s:CB)(r:PV×CO):Prop:=∃n:Int,r=(.d (I n),false)/\(0<=n↔s∈ws)
def qRa(T:Tab)(hT:HT T)(ws:CL (CB))(t:CO)(s:CB)(hn:ws.length<=1000):Ans (qqR ws s) (T.val 446 [.l K0 (ws.map DV.s) t,.s s]):=by
 rw[qab T (hT 446 F446 rfl) rfl];simp[F446,Fr.Aa];refine qpM (λi:Nat=>⟨[(8,.d (I i)),(7,.d (I ws.length)),(1,.d (.s s)),(0,.d (.l K0 (ws.map DV.s) t))],[]⟩) (λi=>i<=ws.length/\¬s∈ws.take i) (λi=>ws.length-i) ?_ 0 ⟨zzK _,by simp⟩ (by simp);rintro B-i ⟨hi,hni⟩ hx;by_cases hlt:i<ws.length
 ·have h1:(i:Int)<ws.length:=by omega
  have h3:=wr1 (i:=i) (by omega);by_cases hs:s=ws[i]
  ·have hm:s∈ws:=by rw[hs];exact zzs hlt
   simp[qq0,h1,hlt,h3,<-hs,zzj];exact qcM (show qqR ws s _ from⟨_,rfl,⟨λ_=>hm,λ_=>by omega⟩⟩)
  ·have g:=qhr hs;have hx':=hx (i+1) ⟨by omega,by
    rw[zzw hlt,zzB,zzH];exact λh=>h.elim hni hs⟩ (by omega)
   simp[qq0,h1,hlt,h3,hs,g,zzj];exact hx' _ _ (by simp)
 ·have:i=ws.length:=by omega
  subst this;rw[List.take_length]at hni;have h1:¬((ws.length:Int)<ws.length):=by omega
  simp[qq0];exact qcM (show qqR ws s _ from⟨_,rfl,⟨λh=>absurd h (by decide),λh=>absurd h hni⟩⟩)
def qQ4(T:Tab)(hT:HT T)(hW:HWd T)(s:CB):T.val 431 [.s s]=some (.d (.b (decide (s∈wordsL))),false):=by
 obtain⟨t,o,e438⟩:=hW.words;obtain⟨r,e446,n,rfl,hn⟩:=qRa T hT wordsL t s (by decide);have e437:T.val 437 [.l K0 (wordsL.map DV.s) t,.s s]=some (.d (.b (decide (s∈wordsL))),false):=by
  have q:decide (s∈wordsL)=decide (0<=n):=by rw[decide_eq_decide];exact hn.symm
  rw[q,qab T (hT 437 qlA rfl) rfl];simp[qlA,Fr.Aa,e446]
 generalize wordsL.map DV.s=w at *
 generalize decide (s∈wordsL)=b at *
 rw[qab T (hT 431 qlz rfl) rfl];simp[qlz,Fr.Aa,e438,e437]
def qQI(T:Tab)(hT:HT T)(s m:CB):∃b:CO,T.val 291 [.s s,.s m]=some (.d (.b b),false)/\(b=true->m.length<=s.length):=by
 rw[qab T (hT 291 qjP rfl) rfl];by_cases h:m.length<=s.length
 ·have g:(m.length:Int)<=s.length:=by omega
  refine⟨(s.take m.length==m),?_,λ_=>h⟩;simp[qjP,Fr.Aa,g,h]
 ·have g:¬((m.length:Int)<=s.length):=by omega
  refine⟨false,?_,(λh=>by cases h)⟩;simp[qjP,Fr.Aa,g,h]
def qQF(T:Tab)(hT:HT T)(s m:CB):∃b:CO,T.val 207 [.s s,.s m]=some (.d (.b b),false)/\(b=true->m.length<=s.length):=by obtain⟨b,e,h⟩:=qQI T hT s m;refine⟨b,?_,h⟩;rw[qab T (hT 207 qlp rfl) rfl];simp[qlp,Fr.Aa,e]
def qcH:CB->CO
 |[]=>false
 |c::r=>qeY (cN c)&&(decide ((c::r).takeWhile (λc=>qef (cN c))=c::r)&&(!decide (c::r∈wordsL)&&decide ((c::r).length<=16)))
def qiB(s:CB)(r:PV×CO):Prop:=∃k t e,r=qhz k t e/\(e=0->t≠[]/\t.length<=s.length)/\(qcH s=true->k=1/\t=s/\e=0)/\(e=0->k=1->t=s->qcH s=true)
def qDj(k:K)(v:DV):Cl [some (.box k (.d v))]:=λr h=>by simp[qat,qaO,Obj.refs,PV.refs]at h
def qQ1(T:Tab)(hT:HT T)(hC:HC T)(hW:HWd T)(s:CB)(h0:s≠[])(hs:s.length<=2048):Ans (qiB s) (T.val 424 [.s s]):=by
 have hm:=mxl;obtain⟨c,r,rfl⟩:∃c r,s=c::r:=by
  cases s with
  |nil=>exact absurd rfl h0
  |cons c r=>exact⟨c,r,rfl⟩
 have w32:IntKind.i32.wrap ((c.toNat:Nat):Int)=cN c:=by rw[IntKind.wrap_i32];have:=c.toNat_lt;unfold cN;omega
 have e429:=qCX T hT (cN c);have e432:=qqD T hT (cN c);have z:Cl [some (.box (K1 3) (.d (.a [I 0,I 0,.s []])))]:=qDj _ _;cases hl:qeY (cN c)with
 |true=>
  rw[hl]at e429;have e425:=qnD T hT 430 qef (λn=>qCY T hT n) (c::r) (by rw[hm];omega) _ z;have hne:(c::r).takeWhile (λc=>qef (cN c))≠[]:=by rw[List.takeWhile_cons,if_pos (by unfold qef;rw[hl];rfl)];simp
  have hle:=qqz (λc=>qef (cN c)) (c::r);have hN:qcH (c::r)=(decide ((c::r).takeWhile (λc=>qef (cN c))=c::r)&&(!decide (c::r∈wordsL)&&decide ((c::r).length<=16))):=by show (qeY (cN c)&&_)=_;rw[hl,Bool.true_and]
  generalize (c::r).takeWhile (λc=>qef (cN c))=w at *
  have e431:=qQ4 T hT hW w;cases hb:decide (w∈wordsL)with
  |true=>
   rw[hb]at e431;rw[qab T (hT 424 F424 rfl) rfl];simp[F424,Fr.Aa,↓qbM,↓qbc,↓qay,↓qaR,w32,e429,e425,e431,↓qak,↓qam,↓qal,putAt,mkA,qac,qai,qan,qaj,qbK];exact qcM (show qiB _ _ from⟨5,w,0,rfl,λ_=>⟨hne,hle⟩,(λh=>by
    exfalso;rw[hN]at h;simp only[zzf,zzq,Bool.not_eq_true',zzE]at h hb;exact h.2.1 (h.1▸hb)),λ_ h=>absurd h (by decide)⟩)
  |false=>
   rw[hb]at e431;by_cases hw:16<w.length
   ·have g:(16:Int)<w.length:=by omega
    rw[qab T (hT 424 F424 rfl) rfl];simp[F424,Fr.Aa,↓qbM,↓qbc,↓qay,↓qaR,w32,e429,e425,e431,hw,g,↓qak,↓qam,↓qal,putAt,mkA,qac,qai,qan,qaj,qbK];exact qcM (show qiB _ _ from⟨0,[],4,rfl,(λh=>by cases h),(λh=>by
     exfalso;rw[hN]at h;simp only[zzf,zzq,Bool.not_eq_true',zzE]at h;rw[h.1]at hw;omega),λh=>by cases h⟩)
   ·have g:¬((16:Int)<w.length):=by omega
    rw[qab T (hT 424 F424 rfl) rfl];simp[F424,Fr.Aa,↓qbM,↓qbc,↓qay,↓qaR,w32,e429,e425,e431,hw,g,↓qak,↓qam,↓qal,putAt,mkA,qac,qai,qan,qaj,qbK];exact qcM (show qiB _ _ from⟨1,w,0,rfl,λ_=>⟨hne,hle⟩,(λh=>by
     rw[hN]at h;simp only[zzf,zzq,Bool.not_eq_true',zzE]at h;exact⟨rfl,h.1,rfl⟩),λ_ _ h=>by
     rw[hN];simp only[zzf,zzq,Bool.not_eq_true',zzE]at hb⊢;refine⟨h,h▸hb,?_⟩;rw[<-h];omega⟩)
 |false=>
  have hN:qcH (c::r)=false:=by show (qeY (cN c)&&_)=_;rw[hl,Bool.false_and]
  have hN1:∀{p:Prop},qcH (c::r)=true->p:=λh=>by rw[hN]at h;cases h
  rw[hl]at e429;cases hd:qb3 (cN c)with
  |true=>
   rw[hd]at e432;have e425:=qnD T hT 434 qjt (λn=>qQ6 T hT n) (c::r) (by rw[hm];omega) _ z;have hne:(c::r).takeWhile (λc=>qjt (cN c))≠[]:=by rw[List.takeWhile_cons,if_pos (by unfold qjt qef;rw[hl,hd];rfl)];simp
   have hle:=qqz (λc=>qjt (cN c)) (c::r);generalize (c::r).takeWhile (λc=>qjt (cN c))=w at *
   obtain⟨k,t,e,e433,ht,hk1⟩:=qQ5 T hT hC w (by omega);unfold qhz at e433;rw[qab T (hT 424 F424 rfl) rfl];simp[F424,Fr.Aa,↓qbM,↓qbc,↓qay,↓qaR,w32,e429,e432,e425,e433];exact qcM (show qiB _ _ from⟨k,t,e,rfl,(λh=>by rw[ht h];exact⟨hne,hle⟩),hN1,λ_ h=>absurd h hk1⟩)
  |false=>
   rw[hd]at e432;obtain⟨ms,t,o,e435,hn,hms⟩:=hW.marks;rw[qab T (hT 424 F424 rfl) rfl];simp[F424,Fr.Aa,↓qbM,↓qbc,↓qay,↓qaR,w32,e429,e432,e435];refine qpM (λi:Nat=>⟨[(36,.d (I i)),(35,.d (I ms.length)),(34,.d (.l K0 (ms.map DV.s) t)),(2,.p 0 0 0),(0,.d (.s (c::r)))],[some (.box (K1 3) (.d (.a [I 0,I 0,.s []])))]⟩) (λi=>i<=ms.length) (λi=>ms.length-i) ?_ 0 (zzK _) (by simp);rintro B-i hi hx;by_cases hlt:i<ms.length
   ·have h1:(i:Int)<ms.length:=by omega
    have h3:=wr1 (i:=i) (by omega);obtain⟨b,e207,hb⟩:=qQF T hT (c::r) ms[i];cases b with
    |true=>simp[qqY,h1,hlt,h3,e207,zzj,↓qak,↓qam,↓qal,putAt,mkA,qac,qai,qan,qaj,qbK];exact qcM (show qiB _ _ from⟨4,ms[i],0,rfl,(λ_=>⟨hms _ (zzs hlt),hb rfl⟩),hN1,λ_ h=>absurd h (by decide)⟩)
    |false=>have hx':=hx (i+1) (by omega) (by omega);simp[qqY,h1,hlt,h3,e207,zzj];exact hx' _ _ (by simp)
   ·have:i=ms.length:=by omega
    subst this;have h1:¬((ms.length:Int)<ms.length):=by omega
    simp[qqY,↓qak,↓qam,↓qal,putAt,mkA,qac,qai,qan,qaj,qbK];exact qcM (show qiB _ _ from⟨0,[],2,rfl,(λh=>by cases h),hN1,λh=>by cases h⟩)
def qAr{R:Type}{a b c:DV}{q:PV->CK R}:bo (mkP (K1 3) [.d a,.d b,.d c]) (.h q)=q (.d (.a [a,b,c])):=rfl
def qj5(s:CB)(r:PV×CO):Prop:=∃(l:CL A9) (t:CO) (line e:Int),r=(.t [.d (.l (K1 3) (l.map A9.dv) t),.d (I line),.d (I e)],false)/\(qcH s=true->e=0/\∃a,l=[a]/\a.Kind=1/\a.Text=s)/\(e=0->∀a,l=[a]->a.Kind=1->a.Text=s->qcH s=true)
def qtD{s:CB}(h:qcH s=true):s.length<=16/\s≠[]/\qms s:=by
 cases s with
 |nil=>cases h
 |cons c r=>simp only[qcH,zzf,zzq]at h;exact⟨h.2.2.2,by simp,c,r,rfl,h.1⟩
def qQY(T:Tab)(hT:HT T)(hC:HC T)(hW:HWd T)(s:CB)(hs:s.length<=maxLen):Ans (qj5 s) (T.val 420 [.s s]):=by
 have hm:=mxl;rw[qab T (hT 420 F420 rfl) rfl];by_cases hg:2048<s.length
 ·have g:(2048:Int)<s.length:=by omega
  simp[F420,Fr.Aa,g,hg];exact qcM (show qj5 s _ from⟨[],true,0,5,rfl,(λh=>by have:=(qtD h).1;omega),λh=>by cases h⟩)
 have g:¬((2048:Int)<s.length):=by omega
 simp[F420,Fr.Aa,g,hg];refine qpM (λq:CB×CL A9×Int=>⟨[(6,.d (I q.2.2)),(5,qah (K1 3) (q.2.1.map A9.dv)),(0,.d (.s q.1))],qaz (K1 3) (q.2.1.map A9.dv)⟩) (λq=>q.1.length+q.2.1.length<=2048/\((q.2.1=[]/\q.1=s)\/∃a r,q.2.1=a::r/\(a.Kind=1->a.Text=s->qcH s=true)/\(qcH s=true->r=[]/\a.Kind=1/\a.Text=s/\q.1=[]))) (λq=>q.1.length) ?_ (s,[],1) ⟨by simp;omega,.inl ⟨rfl,rfl⟩⟩ (by simp[qah,qaz]);rintro B-⟨u,l,line⟩ ⟨hi,hJ⟩ hx;simp only at hi hJ hx⊢;have hx':=λ(s':CB×CL A9×Int)=>hx s';clear hx;obtain⟨n,hn,e422,hn0⟩:=qQ0 T hT u (by omega);have e423:T.val 423 [.s (u.take n),.s [10]]=some (.d (.i .i64 (qiW (u.take n) 10)),false):=by rw[hC.cnt];rfl
 have g1:(n:Int)<=u.length:=by omega
 generalize qiW (u.take n) 10=cnt at *
 obtain⟨v,hv⟩:∃v,u.drop n=v:=⟨_,rfl⟩;have hvl:v.length<=u.length:=by rw[<-hv,zzJ];omega
 by_cases h0:v=[]
 ·subst h0;cases l with
  |nil=>
   have hu:u=s:=hJ.elim (λh=>h.2) λ⟨a,r,h,_⟩=>by cases h
   simp[qj9,e422,e423,g1,hn,hv,qah,qaz];exact qcM (show qj5 s _ from⟨[],_,_,_,rfl,(λh=>by
    have:=qtD h;rw[hn0 (hu▸this.2.2),hu]at hv;exact absurd hv this.2.1),λ_ a h=>by cases h⟩)
  |cons a l=>
   have ht:(l.map A9.dv).take l.length=l.map A9.dv:=zzv (by simp);simp[qj9,e422,e423,g1,hn,hv,qah,qaz,ht,qaN,pur,qaW,PV.AY,PV.AU,DV.AY,DV.AU];obtain⟨q1,q2⟩:(a.Kind=1->a.Text=s->qcH s=true)/\(qcH s=true->l=[]/\a.Kind=1/\a.Text=s/\u=[]):=hJ.elim (λh=>by cases h.1) λ⟨a',r',h,h1,h2⟩=>by cases h;exact⟨h1,h2⟩
   exact qcM (show qj5 s _ from⟨a::l,_,_,_,rfl,(λh=>by
    obtain⟨r1,r2,r3,-⟩:=q2 h;exact⟨rfl,a,by rw[r1],r2,r3⟩),λ_ b h=>by cases h;exact q1⟩)
 have gv:=qhr h0;obtain⟨rr,e424,k,t,e,hrr,hte,hnm1,hnm2⟩:=qQ1 T hT hC hW v h0 (by omega);have hus:l=[]->u=s:=λhl=>hJ.elim (λh=>h.2) λ⟨a,r,h,_⟩=>by rw[hl]at h;cases h
 have hvs:l=[]->qcH s=true->v=s:=λhl h=>by have:=qtD h;rw[hn0 (hus hl▸this.2.2),hus hl]at hv;exact hv.symm
 have hno:l≠[]->qcH s=false:=λhl=>by
  cases hq:qcH s with
  |false=>rfl
  |true=>
   exfalso;rcases hJ with h|⟨a,r,_,_,h⟩
   ·exact hl h.1
   ·rw[(h hq).2.2.2]at hv;exact h0 (by rw[<-hv];simp)
 rw[hrr]at e424;unfold qhz at e424;by_cases he:e=0
 ·subst he;obtain⟨t0,tl⟩:=hte rfl;have t1:t.length≠0:=λh=>t0 (List.length_eq_zero_iff.1 h);have g2:(t.length:Int)<=v.length:=by omega
  obtain⟨ln,hln⟩:∃ln,IntKind.i64.wrap (line+cnt)=ln:=⟨_,rfl⟩;have hx2:=hx' (v.drop t.length,l++[⟨k,ln,t⟩],ln) ⟨by simp only[zzJ,zzp,zzn,List.length_nil];omega,.inr (by
   cases l with
   |nil=>
    refine⟨⟨k,ln,t⟩,[],rfl,(λhk ht=>?_),λh=>?_⟩
    ·simp only at hk ht;have hu:=hus rfl;subst hu;have hl2:u.length<=v.length:=by rw[<-ht];exact tl
     have hn1:n=0:=by rw[<-hv,zzJ]at hl2;have:=List.length_pos_iff.2 t0;rw[ht]at this;omega
     subst hn1;rw[<-hv]at hnm2;exact hnm2 rfl hk ht
    ·have hvs:=hvs rfl h;obtain⟨r1,r2,-⟩:=hnm1 (by rw[hvs];exact h);exact⟨rfl,r1,by rw[<-hvs];exact r2,by rw[r2];simp⟩
   |cons a l=>
    refine⟨a,l++[⟨k,ln,t⟩],rfl,?_,λh=>by rw[hno (by simp)]at h;cases h⟩;rcases hJ with h|⟨a',r',h,h1,-⟩
    ·cases h.1
    ·cases h;exact h1)⟩ (by simp only[zzJ];omega)
  clear hx';have ed:A9.dv ⟨k,ln,t⟩=.a [I k,I ln,.s t]:=rfl;simp only[List.map_append,zzu,List.map_nil,ed]at hx2;cases l with
  |nil=>simp only[List.map_nil,List.nil_append,qah,qaz]at hx2⊢;simp[qj9,e422,e423,g1,hn,hv,h0,gv,e424,hln,g2,tl,qc1,qa6,qAr,putAt,qai,qan,qaj,qbK,List.take_length];exact hx2 _ _ (by simp)
  |cons a l=>
   simp only[zzu,List.cons_append,qah,qaz]at hx2⊢;simp only[zzn]at hi;have h5:(l.length+1+1)*32<=140737488355328:=by omega
   have ht:(l.map A9.dv).take l.length=l.map A9.dv:=zzv (by simp);simp[qj9,e422,e423,g1,hn,hv,h0,gv,e424,hln,g2,tl,h5,ht,qc1,qa6,qAr,putAt,qai,qan,qaj,qbK,List.take_length];exact hx2 _ _ (by simp)
 ·have ge:=qae he;cases l with
  |nil=>simp[qj9,e422,e423,g1,hn,hv,h0,gv,e424,he,ge,bne,qah,qaz];exact qcM (show qj5 s _ from⟨[],true,_,_,rfl,(λh=>absurd (hnm1 (by rw[hvs rfl h];exact h)).2.2 he),λh=>absurd h he⟩)
  |cons a l=>simp[qj9,e422,e423,g1,hn,hv,h0,gv,e424,he,ge,bne,qah,qaz];exact qcM (show qj5 s _ from⟨[],true,_,_,rfl,(λh=>by rw[hno (by simp)]at h;cases h),λh=>absurd h he⟩)
def qQV(T:Tab)(hT:HT T)(hC:HC T)(hW:HWd T)(s:CB)(hs:s.length<=maxLen):T.val 415 [.s s]=some (.d (.b (qcH s)),false):=by
 obtain⟨r,e420,l,t,line,e,hr,k1,k2⟩:=qQY T hT hC hW s hs;rw[hr]at e420;cases hn:qcH s with
 |true=>obtain⟨rfl,a,rfl,ha,hb⟩:=k1 hn;rw[qab T (hT 415 qel rfl) rfl];simp[qel,Fr.Aa,e420,ha,hb]
 |false=>
  rw[qab T (hT 415 qel rfl) rfl];by_cases he:e=0
  ·subst he;cases l with
   |nil=>simp[qel,Fr.Aa,e420]
   |cons a l=>
    cases l with
    |nil=>
     by_cases hk:a.Kind=1
     ·have ht:¬a.Text=s:=λh=>by have:=k2 rfl a rfl hk h;rw[hn]at this;cases this
      have gt:=qhr ht;simp[qel,Fr.Aa,e420,hk,ht,gt]
     ·have gk:=qae hk;simp[qel,Fr.Aa,e420,hk,gk]
    |cons b l=>
     have g1:((l.length:Int)+1+1==1)=false:=qae (by omega);have g2:¬((l.length:Int)+1+1=1):=by omega
     simp[qel,Fr.Aa,e420,g1,g2]
  ·have ge:=qae he;simp[qel,Fr.Aa,e420,he,ge]
def hnm(T:Tab)(hT:HT T)(hC:HC T)(hW:HWd T):HNm T:=λs hs=>⟨_,qQV T hT hC hW s hs⟩
def qcC(s:CB):CL Aq->Int×Int
 |[]=>(0,4)
 |v::r=>if v.Name=s then (if qdc v.Typ=true then (v.Typ,0)else (0,3))else qcC s r
def qC9(s:CB):∀(a b:CL Aq),(∀v∈a,v.Name≠s)->qcC s (a++b)=qcC s b
 |[],_,_=>rfl
 |v::a,b,h=>by rw[List.cons_append,qcC,if_neg (h v (by simp))];exact qC9 s a b λw hw=>h w (by simp[hw])
def qvy(s:CB):∀(a:CL Aq),(∀v∈a,v.Name≠s)->qcC s a=(0,4)
 |[],_=>rfl
 |v::a,h=>by rw[qcC,if_neg (h v (by simp))];exact qvy s a λw hw=>h w (by simp[hw])
def qqw{α:Type}(l:CL α)(i:Nat)(h:i<l.length):l=l.take i++l[i]::l.drop (i+1):=by rw[List.getElem_cons_drop,List.take_append_drop]
def qJz(T:Tab)(hT:HT T)(s:CB)(vs:CL Aq)(t:CO)(hn:vs.length<=1000){k:KC (PV×CO)}{r:CG}{fr:Fr}{H:CW}
  (he:qcC s vs=(0,4)->k (.exit 0) [(11,.d (.b false)),(10,.d (I vs.length)),(9,.d (I vs.length)),(8,.d (.l (K1 2) (vs.map Aq.dv) t)),(0,.d (.s s))] []=r)
  (hr:∀fr J,fr.get 4=.d (I (qcC s vs).1)->fr.get 5=.d (I (qcC s vs).2)->qao fr=[]->k .ret fr J=r)
  (h0:gc [0,8,9,10] 0 ⟨fr,H⟩=⟨[(10,.d (I 0)),(9,.d (I vs.length)),(8,.d (.l (K1 2) (vs.map Aq.dv) t)),(0,.d (.s s))],[]⟩) :
  kC T.env 0 fr H (.h (.loop [0,8,9,10] qmo,k))=r:=by
 refine qcq (λi:Nat=>⟨[(10,.d (I i)),(9,.d (I vs.length)),(8,.d (.l (K1 2) (vs.map Aq.dv) t)),(0,.d (.s s))],[]⟩) (λi=>i<=vs.length/\∀v∈vs.take i,v.Name≠s) (λi=>vs.length-i) ?_ 0 ⟨zzK _,by simp⟩ h0;rintro B-i ⟨hi,ha⟩ hx;by_cases hlt:i<vs.length
 ·have h1:(i:Int)<vs.length:=by omega
  have h3:=wr1 (i:=i) (by omega);have e:=qCV T hT vs[i].Typ;by_cases hs:vs[i].Name=s
  ·have hv:qcC s vs=if qdc vs[i].Typ=true then (vs[i].Typ,0)else (0,3):=by
    conv=>lhs;rw[qqw vs i hlt,qC9 s _ _ ha,qcC,if_pos hs]
   rw[hv]at hr;cases hk:qdc vs[i].Typ with
   |true=>rw[hk]at e hr;simp only[if_true]at hr;simp[qmo,h1,hlt,hs,e,zzj,h3];exact hr _ _ (by simp[Fr.get]) (by simp[Fr.get]) (by simp[qao,gh])
   |false=>rw[hk]at e hr;simp only[zzg,if_false]at hr;simp[qmo,h1,hlt,hs,e,zzj,h3];exact hr _ _ (by simp[Fr.get]) (by simp[Fr.get]) (by simp[qao,gh])
  ·have g:=qhr hs;have hx':=hx (i+1) ⟨by omega,by
    rw[zzw hlt];intro v hv;rcases zzB.1 hv with hv|hv
    ·exact ha v hv
    ·rw[zzH.1 hv];exact hs⟩ (by omega)
   simp[qmo,h1,hlt,hs,g,e,zzj,h3];exact hx' _ _ (by simp)
 ·have:i=vs.length:=by omega
  subst this;rw[List.take_length]at ha;have he':=he (qvy s vs ha);have h1:¬((vs.length:Int)<vs.length):=by omega
  simp[qmo];exact he'
def qQT(T:Tab)(hT:HT T)(s:CB)(vs:CL Aq)(t:CO)(hn:vs.length<=1000):T.val 410 [.s s,.l (K1 2) (vs.map Aq.dv) t]=some (two (qcC s vs)):=by
 have lp:=λk r fr H=>@qJz T hT s vs t hn k r fr H;rw[qab T (hT 410 F410 rfl) rfl];unfold two;simp[F410,Fr.Aa];refine lp _ _ _ _ (λh=>?_) (λfr J h4 h5 hg=>?_) (by simp)
 ·rw[h];simp
 ·simp[h4,h5,hg]
def qbo{α:Type}(g:α->Int):CL α->Int
 |[]=>0
 |a::r=>if g a=0 then qbo g r else g a
def qo8{α:Type}(g:α->Int):∀(a b:CL α),(∀v∈a,g v=0)->qbo g (a++b)=qbo g b
 |[],_,_=>rfl
 |v::a,b,h=>by rw[List.cons_append,qbo,if_pos (h v (by simp))];exact qo8 g a b λw hw=>h w (by simp[hw])
def qi9{α:Type}(g:α->Int):∀(a:CL α),qbo g a=0↔∀v∈a,g v=0
 |[]=>by simp[qbo]
 |v::a=>by
  rw[qbo];by_cases h:g v=0
  ·rw[if_pos h,qi9 g a];simp[h]
  ·rw[if_neg h];simp[h]
def qJw(T:Tab)(l:CL Ae)(t:CO)(g:Ae->Int×Int)(V w:DV)(hg:∀a∈l,T.val 400 [a.dv,V]=some (two (g a)))(hn:l.length*56<=140737488355328){k:KC (PV×CO)}{r:CG}{fr:Fr}{H:CW}
  (he:qbo (λa=>(g a).2) l=0->k (.exit 1) [(33,.d (.b false)),(32,.d (I l.length)),(31,.d (I l.length)),(30,.d (.l (K1 4) (l.map Ae.dv) t)),(6,qah K0 (l.map λa=>I (g a).1)),(2,pB 0 (l.map λa=>I (g a).1)),(1,.d V)] (qbq K0 [some (.box (K1 4) (.d w))] (l.map λa=>I (g a).1))=r)
  (hr:qbo (λa=>(g a).2) l≠0->∀fr J,fr.get 4=.d (I 0)->fr.get 5=.d (I (qbo (λa=>(g a).2) l))->qao fr=[]->k .ret fr J=r)
  (h0:gc [1,2,6,30,31,32] 0 ⟨fr,H⟩=⟨[(32,.d (I 0)),(31,.d (I l.length)),(30,.d (.l (K1 4) (l.map Ae.dv) t)),(6,.d (.l K0 [] true)),(2,.p 0 0 0),(1,.d V)],[some (.box (K1 4) (.d w))]⟩) :
  kC T.env 0 fr H (.h (.loop [1,2,6,30,31,32] qj8,k))=r:=by
 refine qcq (λi:Nat=>⟨[(32,.d (I i)),(31,.d (I l.length)),(30,.d (.l (K1 4) (l.map Ae.dv) t)),(6,qah K0 ((l.take i).map λa=>I (g a).1)),(2,pB 0 ((l.take i).map λa=>I (g a).1)),(1,.d V)],qbq K0 [some (.box (K1 4) (.d w))] ((l.take i).map λa=>I (g a).1)⟩) (λi=>i<=l.length/\∀v∈l.take i,(g v).2=0) (λi=>l.length-i) ?_ 0 ⟨zzK _,by simp⟩ (by rw[h0];rfl);rintro B-i ⟨hi,ha⟩ hx;by_cases hlt:i<l.length
 ·have h1:(i:Int)<l.length:=by omega
  have h3:=wr1 (i:=i) (by omega);have e:=hg l[i] (zzs hlt);unfold two at e;have hl:((l.take i).map λa=>I (g a).1).length<=i:=by simp;omega
  by_cases hs:(g l[i]).2=0
  ·have hx':=hx (i+1) ⟨by omega,by
    rw[zzw hlt];intro v hv;rcases zzB.1 hv with hv|hv
    ·exact ha v hv
    ·rw[zzH.1 hv];exact hs⟩ (by omega)
   rw[qvk (λa:Ae=>I (g a).1) l i hlt]at hx';rw[hs]at e;generalize (l.take i).map (λa=>I (g a).1)=o at *
   cases o with
   |nil=>simp only[qah,qbq,pB,List.nil_append]at hx'⊢;simp[qj8,h1,hlt,h3,e,zzj];exact hx' _ _ (by simp)
   |cons x o=>
    simp only[qah,qbq,pB,List.cons_append]at hx'⊢;simp only[zzn]at hl;have h5:(o.length+1+1)*8<=140737488355328:=by omega
    have ht:o.take o.length=o:=zzv (by simp);simp[qj8,h1,hlt,h3,h5,ht,e,zzj];exact hx' _ _ (by simp)
  ·have hf:qbo (λa=>(g a).2) l=(g l[i]).2:=by
    conv=>lhs;rw[qqw l i hlt,qo8 _ _ _ ha,qbo,if_neg hs]
   rw[hf]at hr;have hr':=hr hs;have gs:=qae hs;generalize (l.take i).map (λa=>I (g a).1)=o at *
   cases o with
   |nil=>simp only[qah,qbq,pB]at⊢;simp[qj8,h1,hlt,h3,e,hs,gs,bne,zzj];exact hr' _ _ (by simp[Fr.get]) (by simp[Fr.get]) (by simp[qao,gh])
   |cons x o=>simp only[qah,qbq,pB]at⊢;simp[qj8,h1,hlt,h3,e,hs,gs,bne,zzj];exact hr' _ _ (by simp[Fr.get]) (by simp[Fr.get]) (by simp[qao,gh])
 ·have:i=l.length:=by omega
  subst this;rw[List.take_length]at ha⊢;have he':=he ((qi9 _ _).2 ha);have h1:¬((l.length:Int)<l.length):=by omega
  simp[qj8];exact he'
def qtG(op:Int)(l:CL Ae)(g:Ae->Int×Int):Int×Int:=
 if qbo (λa=>(g a).2) l=0 then (if (qb9 op (l.map λa=>(g a).1)).2=true then ((qb9 op (l.map λa=>(g a).1)).1,0)else (0,3))else (0,qbo (λa=>(g a).2) l)
def qvr(T:Tab)(hT:HT T)(x:Ae)(vs:CL Aq)(tv:CO)(hv:vs.length<=1000)(h:x.Op=1\/x.Op=2\/x.Op=3\/x.Op=4) :
  T.val 400 [x.dv,.l (K1 2) (vs.map Aq.dv) tv]=some (two (if x.Op=4 then qcC x.S vs else (x.Op,0))):=by
 have e:=qQT T hT x.S vs tv hv;unfold two at *
 rw[qab T (hT 400 F400 rfl) rfl];rcases h with h|h|h|h
 ·rw[h,if_neg (by decide)];simp[F400,Fr.Aa,h]
 ·rw[h,if_neg (by decide)];simp[F400,Fr.Aa,h]
 ·rw[h,if_neg (by decide)];simp[F400,Fr.Aa,h]
 ·rw[h,if_pos rfl];simp[F400,Fr.Aa,h,e]
def qCU(T:Tab)(hT:HT T)(hA:HA T)(x:Ae)(l:CL Ae)(h2:x.AR.l=l.map Ae.dv)(hn:l.length*56<=140737488355328)(V:DV)(g:Ae->Int×Int)(hg:∀a∈l,T.val 400 [a.dv,V]=some (two (g a)))(n1:x.Op≠1)(n2:x.Op≠2)(n3:x.Op≠3)(n4:x.Op≠4) :
  T.val 400 [x.dv,V]=some (two (qtG x.Op l g)):=by
 have lp:=λw k r fr H=>@qJw T l x.AR.t g V w hg hn k r fr H;have hm:=mxl;have e411:=λb=>qqC T hT hA x.Op (l.map λa=>(g a).1) b (by rw[zzo,hm];omega);simp only[List.map_map]at e411;have hmm:((λn=>I n)∘λa:Ae=>(g a).1)=λa:Ae=>I (g a).1:=rfl;rw[hmm]at e411;have g1:=qae n1;have g2:=qae n2;have g3:=qae n3;have g4:=qae n4;unfold qtG;generalize qb9 x.Op (l.map λa=>(g a).1)=p at *
 obtain⟨w,ok⟩:=p;unfold qa9 at e411;simp only at e411⊢;obtain⟨o,m,s,a⟩:=x;obtain⟨a,t⟩:=a;simp only at h2 lp e411 g1 g2 g3 g4 n1 n2 n3 n4⊢;subst h2;rw[qab T (hT 400 F400 rfl) rfl];unfold two;simp[F400,Fr.Aa,g1,g2,g3,g4,n1,n2,n3,n4];refine lp (Ae.dv ⟨o,m,s,⟨l.map Ae.dv,t⟩⟩) _ _ _ _ (λh=>?_) (λh fr J h4 h5 hg'=>?_) (by simp)
 ·rw[if_pos h];cases ho:l.map (λa=>I (g a).1)with
  |nil=>
   have ef:=e411 true;rw[ho]at ef;cases ok with
   |false=>simp[qah,qbq,pB,ef]
   |true=>simp[qah,qbq,pB,ef]
  |cons y o'=>
   have ef:=e411 false;rw[ho]at ef;have ht:o'.take o'.length=o':=zzv (by simp);cases ok with
   |false=>simp[qah,qbq,pB,ht,qaN,pur,qaW,PV.AY,PV.AU,DV.AY,DV.AU,ef]
   |true=>simp[qah,qbq,pB,ht,qaN,pur,qaW,PV.AY,PV.AU,DV.AY,DV.AU,ef]
 ·rw[if_neg h];simp[h4,h5,hg']
def qmR(x:Int) : -9223372036854775808<=(qbX x).1/\(qbX x).1<9223372036854775808:=by unfold qbX;split<;>simp<;>omega
def qnX(x:Int) : -9223372036854775808<=IntKind.i64.wrap x/\IntKind.i64.wrap x<9223372036854775808:=by rw[wI];omega
def qOU(a b:Ah) : -9223372036854775808<=(qjA a b).1/\(qjA a b).1<9223372036854775808:=by
 unfold qjA;split
 ·split
  ·decide
  ·exact qnX _
 ·split
  ·decide
  ·split<;>exact qmR _
def qEJ(op:Int)(a b:Ah) : -9223372036854775808<=(qku op a b).1/\(qku op a b).1<9223372036854775808:=by
 unfold qku qnl;split
 ·exact qmR _
 ·split
  ·exact qmR _
  ·split
   ·split<;>exact qmR _
   ·split
    ·decide
    ·exact qOU a b
def qE3(op:Int):∀vs:CL Ah,-9223372036854775808<=(clP op vs).1/\(clP op vs).1<9223372036854775808
 |[]=>by simp[clP]
 |[_]=>qmR _
 |[a,b]=>qEJ op a b
 |_::_::_::_=>by simp[clP]
def qju{v:Ah}(h:okV v=true)(h5:v.Typ=5):v.N=0\/v.N=1:=by unfold okV at h;rw[h5]at h;simpa using h
def qE0(op a b:Int)(ha : -9223372036854775808<=a/\a<9223372036854775808)(hb : -9223372036854775808<=b/\b<9223372036854775808) : -9223372036854775808<=qgf op a b/\qgf op a b<9223372036854775808:=by
 have:=qnX (a*b);unfold qgf;repeat' split
 all_goals omega
def qEX(op:Int)(vs:CL Ah)(hi:∀v∈vs,v.i)(hk:∀v∈vs,okV v=true)(h:(qb9 op (vs.map (·.Typ))).2=true)(ho:op<5\/9<op) :
  (-9223372036854775808<=chP op vs/\chP op vs<9223372036854775808)/\((qb9 op (vs.map (·.Typ))).1=5->chP op vs=0\/chP op vs=1):=by
 unfold qb9 at h⊢;by_cases ha:(vs.map (·.Typ)).all qdc=true
 ·rw[if_pos ha]at h⊢;match vs,hi,hk,h with
  |[],_,_,h=>cases h
  |[a],hi,hk,h=>
   simp only[zzu,List.map_nil,chP]at h⊢;refine⟨qnX _,λ_=>?_⟩;have ho2:(qde op a.Typ).2=true:=by
    by_cases c:(qde op a.Typ).2=true
    ·exact c
    ·rw[if_neg c]at h;cases h
   have h16:op=16:=by have:=qAU ho2;omega
   subst h16;have h5:a.Typ=5:=by simpa[qde]using ho2
   rcases qju (hk a (by simp)) h5 with e|e
   ·rw[e];exact .inr (by decide)
   ·rw[e];exact .inl (by decide)
  |[a,b],hi,hk,h=>
   simp only[zzu,List.map_nil,chP]at h⊢;have ia:=hi a (by simp);have ib:=hi b (by simp);unfold Ah.i at ia ib;refine⟨qE0 op a.N b.N ia ib,λh5=>?_⟩;have ho2:(qc3 op a.Typ b.Typ).2=true:=by
    by_cases c:(qc3 op a.Typ b.Typ).2=true
    ·exact c
    ·rw[if_neg c]at h;cases h
   rw[if_pos ho2]at h5;simp only at h5;unfold qc3 at ho2 h5;by_cases h1:op=10\/op=11
   ·unfold qgf;rcases h1 with h1|h1<;>subst h1<;>simp<;>omega
   rw[if_neg h1]at ho2 h5;by_cases h2:op=12\/op=13
   ·unfold qgf;rcases h2 with h1|h1<;>subst h1<;>simp<;>omega
   rw[if_neg h2]at ho2 h5;by_cases h3:op=14\/op=15
   ·rw[if_pos h3]at ho2;have hb:a.Typ=b.Typ/\a.Typ=5:=by simpa using ho2
    have ka:=qju (hk a (by simp)) hb.2;have kb:=qju (hk b (by simp)) (by rw[<-hb.1];exact hb.2);unfold qgf;rcases h3 with h1|h1<;>subst h1<;>rcases ka with ka|ka<;>rcases kb with kb|kb<;>rw[ka,kb]<;>decide
   rw[if_neg h3]at ho2 h5;by_cases h4:op=17\/op=18
   ·rw[if_pos h4]at ho2 h5;have hb:a.Typ=b.Typ/\a.Typ≠5:=by simpa using ho2
    exact absurd h5 hb.2
   rw[if_neg h4]at ho2 h5;have hv:arV op a.Typ b.Typ≠0:=by simpa using ho2
   have:=qwx hv;omega
  |[a,b,c],hi,hk,h=>
   simp only[zzu,List.map_nil,chP]at h⊢;have ib:=hi b (by simp);have ic:=hi c (by simp);unfold Ah.i at ib ic;refine⟨by split<;>assumption,λh5=>?_⟩;by_cases c':op=19/\a.Typ=5/\b.Typ=c.Typ
   ·rw[if_pos c']at h5;simp only at h5;have kb:=qju (hk b (by simp)) h5;have kc:=qju (hk c (by simp)) (by rw[<-c'.2.2];exact h5);split<;>assumption
   ·rw[if_neg c']at h;cases h
  |_::_::_::_::_,_,_,h=>cases h
 ·rw[if_neg ha]at h;cases h
def qEo(op:Int)(vs:CL Ah)(hi:∀v∈vs,v.i)(h:(qb9 op (vs.map (·.Typ))).2=true)(h0:(qeK op vs).2=0) :
  (qeK op vs).1.Typ=(qb9 op (vs.map (·.Typ))).1/\(qeK op vs).1.i/\((qb9 op (vs.map (·.Typ))).1=5->(qeK op vs).1.N=0\/(qeK op vs).1.N=1):=by
 have hc:=qEX op vs hi;unfold qeK qkp at h0⊢;rw[if_neg (by rw[h];decide)]at h0⊢;by_cases ha:vs.all okV=true
 ·have hk:∀v∈vs,okV v=true:=List.all_eq_true.1 ha;rw[if_neg (by rw[ha];decide)]at h0⊢;by_cases ho:op<5\/9<op
  ·obtain⟨c1,c2⟩:=hc hk h ho;rw[if_pos ho];exact⟨rfl,c1,c2⟩
  ·rw[if_neg ho]at h0⊢;by_cases hf:(clP op vs).2=0
   ·rw[if_pos hf]at h0⊢;by_cases hv:okV ⟨(qb9 op (vs.map (·.Typ))).1,(clP op vs).1⟩=true
    ·rw[if_pos hv];exact⟨rfl,qE3 op vs,λh5=>qju hv h5⟩
    ·rw[if_neg hv]at h0;cases h0
   ·rw[if_neg hf]at h0;exact absurd h0 hf
 ·rw[if_pos (by simpa using ha)]at h0;cases h0
def qet(s:CB):CL Aq->CL Ah->Ah
 |v::r,w::q=>if v.Name=s then w else qet s r q
 |_,_=>⟨0,0⟩
def qxw(s:CB):∀(vs:CL Aq) (es:CL Ah) (i:Nat) (h:i<vs.length) (h':i<es.length),(∀v∈vs.take i,v.Name≠s)->vs[i].Name=s->qet s vs es=es[i]
 |v::vs,e::es,0,_,_,_,hs=>by rw[qet,if_pos (show v.Name=s from hs)];rfl
 |v::vs,e::es,i+1,h,h',ha,hs=>by rw[qet,if_neg (ha v (by simp))];exact qxw s vs es i (by simpa using h) (by simpa using h') (λw hw=>ha w (by simp[hw])) hs
def qJU(T:Tab)(x:Ae)(vs:CL Aq)(es:CL Ah)(tv te:CO)(hn:vs.length<=1000)(hl:vs.length=es.length)(hf:(qcC x.S vs).2=0){k:KC (PV×CO)}{r:CG}{fr:Fr}{H:CW}(z:DV)
  (hr:∀fr J,fr.get 6=.p 0 0 0->fr.get 7=.d (I 0)->qao fr=[]->k .ret fr (some (.box (K1 2) (.d (qet x.S vs es).dv))::J)=r)
  (h0:gc [1,2,3,6,36,37,38] 0 ⟨fr,H⟩=⟨[(38,.d (I 0)),(37,.d (I vs.length)),(36,.d (.l (K1 2) (vs.map Aq.dv) tv)),(6,.p 0 0 0),(3,.p 1 0 0),(2,.d (.l (K1 2) (es.map Ah.dv) te)),(1,.d (.l (K1 2) (vs.map Aq.dv) tv))],[some (.box (K1 2) (.d z)),some (.box (K1 4) (.d x.dv))]⟩) :
  kC T.env 0 fr H (.h (.loop [1,2,3,6,36,37,38] qrj,k))=r:=by
 refine qcq (λi:Nat=>⟨[(38,.d (I i)),(37,.d (I vs.length)),(36,.d (.l (K1 2) (vs.map Aq.dv) tv)),(6,.p 0 0 0),(3,.p 1 0 0),(2,.d (.l (K1 2) (es.map Ah.dv) te)),(1,.d (.l (K1 2) (vs.map Aq.dv) tv))],[some (.box (K1 2) (.d z)),some (.box (K1 4) (.d x.dv))]⟩) (λi=>i<=vs.length/\∀v∈vs.take i,v.Name≠x.S) (λi=>vs.length-i) ?_ 0 ⟨zzK _,by simp⟩ h0;rintro B-i ⟨hi,ha⟩ hx;by_cases hlt:i<vs.length
 ·have h1:(i:Int)<vs.length:=by omega
  have h1':(i:Int)<es.length:=by omega
  have hlt':i<es.length:=by omega
  have h3:=wr1 (i:=i) (by omega);by_cases hs:vs[i].Name=x.S
  ·rw[qxw x.S vs es i hlt hlt' ha hs]at hr;simp[qrj,h1,h1',hlt,hlt',hs,zzj,h3];exact hr _ _ (by simp[Fr.get]) (by simp[Fr.get]) (by simp[qao,gh])
  ·have g:=qhr hs;have hx':=hx (i+1) ⟨by omega,by
    rw[zzw hlt];intro v hv;rcases zzB.1 hv with hv|hv
    ·exact ha v hv
    ·rw[zzH.1 hv];exact hs⟩ (by omega)
   simp[qrj,h1,hlt,hs,g,zzj,h3];exact hx' _ _ (by simp)
 ·exfalso;have:i=vs.length:=by omega
  subst this;rw[List.take_length]at ha;rw[qvy x.S vs ha]at hf;cases hf
def qJV(T:Tab)(x:Ae)(l:CL Ae)(t:CO)(g:Ae->Ah×Int)(V E z:DV)(hg:∀a∈l,T.val 947 [a.dv,V,E]=some (qa4 (g a)))(hn:l.length*56<=140737488355328){k:KC (PV×CO)}{r:CG}{fr:Fr}{H:CW}
  (he:qbo (λa=>(g a).2) l=0->k (.exit 3) [(85,.d (.b false)),(84,.d (I l.length)),(83,.d (I l.length)),(82,.d (.l (K1 4) (l.map Ae.dv) t)),(12,qah (K1 2) (l.map λa=>(g a).1.dv)),(6,pB 0 (l.map λa=>(g a).1.dv)),(3,pB 1 (l.map λa=>(g a).1.dv)),(2,.d E),(1,.d V)] (qbq (K1 2) [some (.box (K1 2) (.d z)),some (.box (K1 4) (.d x.dv))] (l.map λa=>(g a).1.dv))=r)
  (hr0:qbo (λa=>(g a).2) l≠0->∀fr J,fr.get 6=.p 0 0 0->fr.get 7=.d (I (qbo (λa=>(g a).2) l))->qao fr=[]->k .ret fr (some (.box (K1 2) (.d (.a [I 0,I 0])))::J)=r)
  (hr1:qbo (λa=>(g a).2) l≠0->∀fr s J,fr.get 6=.p 1 0 0->fr.get 7=.d (I (qbo (λa=>(g a).2) l))->qao fr=[]->k .ret fr (s::some (.box (K1 2) (.d (.a [I 0,I 0])))::J)=r)
  (h0:gc [1,2,3,6,12,82,83,84] 0 ⟨fr,H⟩=⟨[(84,.d (I 0)),(83,.d (I l.length)),(82,.d (.l (K1 4) (l.map Ae.dv) t)),(12,.d (.l (K1 2) [] true)),(6,.p 0 0 0),(3,.p 1 0 0),(2,.d E),(1,.d V)],[some (.box (K1 2) (.d z)),some (.box (K1 4) (.d x.dv))]⟩) :
  kC T.env 0 fr H (.h (.loop [1,2,3,6,12,82,83,84] qkh,k))=r:=by
 refine qcq (λi:Nat=>⟨[(84,.d (I i)),(83,.d (I l.length)),(82,.d (.l (K1 4) (l.map Ae.dv) t)),(12,qah (K1 2) ((l.take i).map λa=>(g a).1.dv)),(6,pB 0 ((l.take i).map λa=>(g a).1.dv)),(3,pB 1 ((l.take i).map λa=>(g a).1.dv)),(2,.d E),(1,.d V)],qbq (K1 2) [some (.box (K1 2) (.d z)),some (.box (K1 4) (.d x.dv))] ((l.take i).map λa=>(g a).1.dv)⟩) (λi=>i<=l.length/\∀v∈l.take i,(g v).2=0) (λi=>l.length-i) ?_ 0 ⟨zzK _,by simp⟩ (by rw[h0];rfl);rintro B-i ⟨hi,ha⟩ hx;by_cases hlt:i<l.length
 ·have h1:(i:Int)<l.length:=by omega
  have h3:=wr1 (i:=i) (by omega);have e:=hg l[i] (zzs hlt);unfold qa4 at e;have hl:((l.take i).map λa=>(g a).1.dv).length<=i:=by simp;omega
  by_cases hs:(g l[i]).2=0
  ·have hx':=hx (i+1) ⟨by omega,by
    rw[zzw hlt];intro v hv;rcases zzB.1 hv with hv|hv
    ·exact ha v hv
    ·rw[zzH.1 hv];exact hs⟩ (by omega)
   rw[qvk (λa:Ae=>(g a).1.dv) l i hlt]at hx';rw[hs]at e;generalize (l.take i).map (λa=>(g a).1.dv)=o at *
   cases o with
   |nil=>simp only[qah,qbq,pB,List.nil_append]at hx'⊢;simp[qkh,h1,hlt,h3,e,zzj];exact hx' _ _ (by simp)
   |cons y o=>
    simp only[qah,qbq,pB,List.cons_append]at hx'⊢;simp only[zzn]at hl;have h5:(o.length+1+1)*16<=140737488355328:=by omega
    have ht:o.take o.length=o:=zzv (by simp);simp[qkh,h1,hlt,h3,h5,ht,e,zzj];exact hx' _ _ (by simp)
  ·have hf:qbo (λa=>(g a).2) l=(g l[i]).2:=by
    conv=>lhs;rw[qqw l i hlt,qo8 _ _ _ ha,qbo,if_neg hs]
   rw[hf]at hr0 hr1;have gs:=qae hs;generalize (l.take i).map (λa=>(g a).1.dv)=o at *
   cases o with
   |nil=>have hr':=hr0 hs;simp only[qah,qbq,pB]at⊢;simp[qkh,h1,hlt,h3,e,hs,gs,bne,zzj,↓qak,↓qam,↓qal,putAt,mkA,qac,qai,qan,qaj];exact hr' _ _ (by simp[Fr.get]) (by simp[Fr.get]) (by simp[qao,gh])
   |cons y o=>have hr':=hr1 hs;simp only[qah,qbq,pB]at⊢;simp[qkh,h1,hlt,h3,e,hs,gs,bne,zzj,↓qak,↓qam,↓qal,putAt,mkA,qac,qai,qan,qaj];exact hr' _ _ _ (by simp[Fr.get]) (by simp[Fr.get]) (by simp[qao,gh])
 ·have:i=l.length:=by omega
  subst this;rw[List.take_length]at ha⊢;have he':=he ((qi9 _ _).2 ha);have h1:¬((l.length:Int)<l.length):=by omega
  simp[qkh];exact he'
def qGV{n:Int}(h:inK .i64 n) : -9223372036854775808<=n/\n<=9223372036854775807:=by unfold inK at h;simp[Lit.wf]at h;simp[IntKind.min,IntKind.max,IntKind.signed,IntKind.bits]at h;omega
def qPQ(v:Ah)(f:Int):PV.AY (.t [.d v.dv,.d (I f)])=true:=rfl
def qlk(vs:CL Aq)(es:CL Ah):Prop:=vs.length=es.length/\∀i (h:i<vs.length) (h':i<es.length),es[i].Typ=vs[i].Typ/\es[i].i/\okV es[i]=true
def qFO{v:Aq}{w:Ah}{vs:CL Aq}{es:CL Ah}(h:qlk (v::vs) (w::es)):qlk vs es:=
 ⟨by simpa using h.1,λi hi hi'=>h.2 (i+1) (Nat.succ_lt_succ hi) (Nat.succ_lt_succ hi')⟩
def qDa(s:CB):∀(vs:CL Aq) (es:CL Ah),qlk vs es->(qcC s vs).2=0->(qet s vs es).Typ=(qcC s vs).1/\(qet s vs es).i/\((qcC s vs).1=5->(qet s vs es).N=0\/(qet s vs es).N=1)
 |[],_,_,h=>by cases h
 |v::vs,[],hE,_=>by have:=hE.1;simp at this
 |v::vs,w::es,hE,h=>by
  rw[qcC]at h⊢;rw[qet];by_cases hs:v.Name=s
  ·rw[if_pos hs]at h⊢;rw[if_pos hs];obtain⟨e1,e2,e3⟩:=hE.2 0 (by simp) (by simp);simp only[List.getElem_cons_zero]at e1 e2 e3;by_cases hk:qdc v.Typ=true
   ·rw[if_pos hk];exact⟨e1,e2,λh5=>qju e3 (by rw[e1];exact h5)⟩
   ·rw[if_neg hk]at h;cases h
  ·rw[if_neg hs]at h⊢;rw[if_neg hs];exact qDa s vs es (qFO hE) h
def qRT(T:Tab)(hT:HT T)(x:Ae)(V E:DV)(h:x.Op=1\/x.Op=2\/x.Op=3):T.val 947 [x.dv,V,E]=some (qa4 (⟨x.Op,x.N⟩,0)):=by
 rw[qab T (hT 947 F947 rfl) rfl];rcases h with h|h|h
 ·rw[h];simp[F947,Fr.Aa,h,↓qak,↓qam,↓qal,putAt,mkA,qac,qai,qan,qaj,qa4,Ah.dv]
 ·rw[h];simp[F947,Fr.Aa,h,↓qak,↓qam,↓qal,putAt,mkA,qac,qai,qan,qaj,qa4,Ah.dv]
 ·rw[h];simp[F947,Fr.Aa,h,↓qak,↓qam,↓qal,putAt,mkA,qac,qai,qan,qaj,qa4,Ah.dv]
def qRV(T:Tab)(hT:HT T)(x:Ae)(vs:CL Aq)(es:CL Ah)(tv te:CO)(hn:vs.length<=1000)(hl:vs.length=es.length)(h:x.Op=4)(hf:(qcC x.S vs).2=0):T.val 947 [x.dv,.l (K1 2) (vs.map Aq.dv) tv,.l (K1 2) (es.map Ah.dv) te]=some (qa4 (qet x.S vs es,0)):=by have lp:=λk r fr H=>@qJU T x vs es tv te hn hl hf k r fr H (.a [I 0,I 0]);rw[qab T (hT 947 F947 rfl) rfl];simp[F947,Fr.Aa,h];refine lp _ _ _ _ (λfr J h6 h7 hg=>?_) (by simp);simp[h6,h7,hg,qa4]
def qRU(T:Tab)(hT:HT T)(hA:HA T)(x:Ae)(l:CL Ae)(h2:x.AR.l=l.map Ae.dv)(hn:l.length*56<=140737488355328)(V E:DV)(g:Ae->Ah×Int)(hg:∀a∈l,T.val 947 [a.dv,V,E]=some (qa4 (g a)))(hi:∀a∈l,(g a).2=0->(g a).1.i)(n1:x.Op≠1)(n2:x.Op≠2)(n3:x.Op≠3)(n4:x.Op≠4)(n5:x.Op≠19) :
  T.val 947 [x.dv,V,E]=some (qa4 (if qbo (λa=>(g a).2) l=0 then qeK x.Op (l.map λa=>(g a).1)else (⟨0,0⟩,qbo (λa=>(g a).2) l))):=by
 have lp:=λk r fr H=>@qJV T x l x.AR.t g V E (.a [I 0,I 0]) hg hn k r fr H;have hmm:∀(l:CL Ae),(l.map λa=>(g a).1).map Ah.dv=l.map λa=>(g a).1.dv:=λl=>by rw[List.map_map];rfl
 have e967:=λb (h:qbo (λa=>(g a).2) l=0)=>qRW T hT hA x.Op (l.map λa=>(g a).1) b (by rw[zzo];exact hn) (λv hv=>by
  obtain⟨a,ha,rfl⟩:=zzN.1 hv;exact hi a ha ((qi9 _ _).1 h a ha))
 simp only[hmm]at e967;have g1:=qae n1;have g2:=qae n2;have g3:=qae n3;have g4:=qae n4;have g5:=qae n5;generalize qeK x.Op (l.map λa=>(g a).1)=p at *
 obtain⟨v,f⟩:=p;unfold qa4 at e967⊢;simp only at e967;obtain⟨o,m,s,a⟩:=x;obtain⟨a,t⟩:=a;simp only at h2 lp e967 g1 g2 g3 g4 g5 n1 n2 n3 n4 n5⊢;subst h2;rw[qab T (hT 947 F947 rfl) rfl];simp[F947,Fr.Aa,g1,g2,g3,g4,g5,n1,n2,n3,n4,n5];refine lp _ _ _ _ (λh=>?_) (λh fr J h6 h7 hg'=>?_) (λh fr z J h6 h7 hg'=>?_) (by simp)
 ·rw[if_pos h];cases ho:l.map (λa=>(g a).1.dv)with
  |nil=>have ef:=e967 true h;rw[ho]at ef;simp[qah,qbq,pB,ef]
  |cons y o'=>have ef:=e967 false h;rw[ho]at ef;have ht:o'.take o'.length=o':=zzv (by simp);simp[qah,qbq,pB,ht,qaN,pur,qaW,qPQ,ef]
 ·rw[if_neg h];simp[h6,h7,hg',Ah.dv]
 ·rw[if_neg h];simp[h6,h7,hg',Ah.dv]
def qRS(T:Tab)(hT:HT T)(x c a b:Ae)(h2:x.AR.l=[c.dv,a.dv,b.dv])(V E:DV)(p q s:Ah×Int)(hc:T.val 947 [c.dv,V,E]=some (qa4 p))(ha:p.2=0->p.1.N=1->T.val 947 [a.dv,V,E]=some (qa4 q))(hb:p.2=0->p.1.N=0->T.val 947 [b.dv,V,E]=some (qa4 s))(h01:p.2=0->p.1.N=0\/p.1.N=1)(h:x.Op=19) :
  T.val 947 [x.dv,V,E]=some (qa4 (if p.2=0 then (if p.1.N=1 then q else s)else (⟨0,0⟩,p.2))):=by
 obtain⟨o,m,w,l⟩:=x;obtain⟨l,t⟩:=l;simp only at h2 h;subst h2;subst h;obtain⟨v,f⟩:=p;unfold qa4 at *
 simp only at hc ha hb h01⊢;have w1:IntKind.i64.wrap 1=1:=by decide
 have w2:IntKind.i64.wrap 2=2:=by decide
 rw[qab T (hT 947 F947 rfl) rfl];by_cases hf:f=0
 ·subst hf;rw[if_pos rfl];rcases h01 rfl with hn|hn
  ·have e:=hb rfl hn;rw[if_neg (by omega)];simp[F947,Fr.Aa,hc,hn,e,w1,w2]
  ·have e:=ha rfl hn;rw[if_pos hn];simp[F947,Fr.Aa,hc,hn,e,w1,w2]
 ·have gf:=qae hf;rw[if_neg hf];simp[F947,Fr.Aa,hc,hf,gf,bne,↓qak,↓qam,↓qal,putAt,mkA,qac,qai,qan,qaj,Ah.dv]
def TV(T:Tab)(V E:DV)(x:Ae)(p:Int×Int):Prop:=
 T.val 400 [x.dv,V]=some (two p)/\(p.2=0->∃q:Ah×Int,T.val 947 [x.dv,V,E]=some (qa4 q)/\(q.2=0->q.1.Typ=p.1/\q.1.i/\(p.1=5->q.1.N=0\/q.1.N=1)))
def qPj{ts:CE}(h:(qb9 19 ts).2=true):∃b,ts=[5,b,b]/\(qb9 19 ts).1=b:=by
 unfold qb9 at h⊢;by_cases ha:ts.all qdc=true
 ·rw[if_pos ha]at h⊢;match ts,h with
  |[],h=>cases h
  |[a],h=>simp[qde]at h
  |[a,b],h=>
   have:(qc3 19 a b).2=true:=by
    by_cases c:(qc3 19 a b).2=true
    ·exact c
    ·simp only at h;rw[if_neg c]at h;cases h
   exact absurd rfl (qCI this).2.2
  |[a,b,c],h=>
   have h':a=5/\b=c:=by
    by_cases c':a=5/\b=c
    ·exact c'
    ·exfalso;simp[c']at h
   obtain⟨rfl,rfl⟩:=h';exact⟨b,rfl,by simp⟩
  |_::_::_::_::_,h=>cases h
 ·rw[if_neg ha]at h;cases h
def qQi{α:Type}{f:α->Int}{l:CL α}{x y z:Int}(h:l.map f=[x,y,z]):∃a b c,l=[a,b,c]/\f a=x/\f b=y/\f c=z:=by
 cases l with
 |nil=>simp at h
 |cons a l=>
  cases l with
  |nil=>simp at h
  |cons b l=>
   cases l with
   |nil=>simp at h
   |cons c l=>
    cases l with
    |nil=>simp at h;exact⟨a,b,c,rfl,h.1,h.2.1,h.2.2⟩
    |cons d l=>simp at h
def qQo(T:Tab)(hT:HT T)(hA:HA T)(vs:CL Aq)(es:CL Ah)(tv te:CO)(hv:vs.length<=1000)(hE:qlk vs es):∀(n:Nat) (x:Ae),SizeOf.sizeOf x.dv<n->x.ok->∃p,TV T (.l (K1 2) (vs.map Aq.dv) tv) (.l (K1 2) (es.map Ah.dv) te) x p:=by
 intro n;induction n with
 |zero=>intro x h;exact absurd h (zzm _)
 |succ n ih=>
  intro x hn hx;by_cases n4:x.Op=4
  ·have e:=qvr T hT x vs tv hv (.inr (.inr (.inr n4)));rw[if_pos n4]at e;refine⟨_,e,λh0=>⟨_,qRV T hT x vs es tv te hv hE.1 n4 h0,λ_=>qDa x.S vs es hE h0⟩⟩
  by_cases n123:x.Op=1\/x.Op=2\/x.Op=3
  ·have e:=qvr T hT x vs tv hv (by rcases n123 with h|h|h<;>first|exact .inl h|exact .inr (.inl h)|exact .inr (.inr (.inl h)));rw[if_neg n4]at e;refine⟨_,e,λh0=>⟨_,qRT T hT x _ _ n123,λ_=>⟨rfl,?_,λh5=>?_⟩⟩⟩
   ·have:=qGV hx.2.1;exact⟨this.1,by show x.N<_;omega⟩
   ·simp only at h5;omega
  have n1:x.Op≠1:=λh=>n123 (.inl h);have n2:x.Op≠2:=λh=>n123 (.inr (.inl h));have n3:x.Op≠3:=λh=>n123 (.inr (.inr h));obtain⟨l,h2,h3,h4⟩:=qnb hx;obtain⟨g,hg⟩:=qkv (P:=λa p=>TV T (.l (K1 2) (vs.map Aq.dv) tv) (.l (K1 2) (es.map Ah.dv) te) a p) (λa ha=>ih a (by have:=qna h2 ha;omega) (h3 a ha));have e400:=qCU T hT hA x l h2 h4 (.l (K1 2) (vs.map Aq.dv) tv) g (λa ha=>(hg a ha).1) n1 n2 n3 n4;refine⟨_,e400,λh0=>?_⟩;unfold qtG at h0⊢;by_cases hf:qbo (λa=>(g a).2) l=0
  ·rw[if_pos hf]at h0⊢;by_cases hr:(qb9 x.Op (l.map λa=>(g a).1)).2=true
   ·rw[if_pos hr];have hall:=(qi9 _ _).1 hf
    haveI:Nonempty (Ah×Int):=⟨(⟨0,0⟩,0)⟩
    obtain⟨G,hG⟩:=qkv (P:=λ(a:Ae) (q:Ah×Int)=>T.val 947 [a.dv,.l (K1 2) (vs.map Aq.dv) tv,.l (K1 2) (es.map Ah.dv) te]=some (qa4 q)/\(q.2=0->q.1.Typ=(g a).1/\q.1.i/\((g a).1=5->q.1.N=0\/q.1.N=1))) (λa ha=>(hg a ha).2 (hall a ha));by_cases n5:x.Op=19
    ·rw[n5]at hr⊢;obtain⟨b,hb,hb1⟩:=qPj hr;rw[hb1];obtain⟨c,a,d,hl3,hc5,ha5,hd5⟩:=qQi hb;rw[hl3]at h2 hG;have Gc:=hG c (by simp);have Ga:=hG a (by simp);have Gd:=hG d (by simp);have e:=qRS T hT x c a d h2 _ _ (G c) (G a) (G d) Gc.1 (λ_ _=>Ga.1) (λ_ _=>Gd.1) (λh=>(Gc.2 h).2.2 hc5) n5;refine⟨_,e,?_⟩;by_cases f0:(G c).2=0
     ·rw[if_pos f0];by_cases c1:(G c).1.N=1
      ·rw[if_pos c1];intro h;have:=Ga.2 h;rw[ha5]at this;exact this
      ·rw[if_neg c1];intro h;have:=Gd.2 h;rw[hd5]at this;exact this
     ·rw[if_neg f0];intro h;exact absurd h f0
    ·have e:=qRU T hT hA x l h2 h4 _ _ G (λa ha=>(hG a ha).1) (λa ha h=>((hG a ha).2 h).2.1) n1 n2 n3 n4 n5;refine⟨_,e,?_⟩;by_cases f0:qbo (λa=>(G a).2) l=0
     ·rw[if_pos f0];intro h;have hall2:=(qi9 _ _).1 f0;have ht:(l.map λa=>(G a).1).map (·.Typ)=l.map λa=>(g a).1:=by rw[List.map_map];apply List.map_congr_left;intro a ha;exact ((hG a ha).2 (hall2 a ha)).1
      have:=qEo x.Op (l.map λa=>(G a).1) (λv hv=>by
       obtain⟨a,ha,rfl⟩:=zzN.1 hv;exact ((hG a ha).2 (hall2 a ha)).2.1) (by rw[ht];exact hr) h
      rw[ht]at this;exact this
     ·rw[if_neg f0];intro h;exact absurd h f0
   ·rw[if_neg hr]at h0;cases h0
  ·rw[if_neg hf]at h0;exact absurd h0 hf
def evB:CL Aq->CL Ah->CO
 |[],[]=>true
 |v::vs,e::es=>(decide (e.Typ=v.Typ)&&okV e)&&evB vs es
 |_,_=>false
def qxF:∀(vs:CL Aq) (es:CL Ah),(∀e∈es,e.i)->evB vs es=true->qlk vs es
 |[],[],_,_=>⟨rfl,λi h=>absurd h (zzm _)⟩
 |[],_::_,_,h=>by cases h
 |_::_,[],_,h=>by cases h
 |v::vs,e::es,hi,h=>by
  simp only[evB,zzf,zzq]at h;have ih:=qxF vs es (λw hw=>hi w (by simp[hw])) h.2;refine⟨by simp[ih.1],λi h1 h2=>?_⟩;cases i with
  |zero=>exact⟨h.1.1,hi e (by simp),h.1.2⟩
  |succ i=>exact ih.2 i (by simpa using h1) (by simpa using h2)
def qxG:∀(vs:CL Aq) (es:CL Ah),vs.length≠es.length->evB vs es=false
 |[],[],h=>absurd rfl h
 |[],_::_,_=>rfl
 |_::_,[],_=>rfl
 |v::vs,e::es,h=>by rw[evB,qxG vs es (by simpa using h),Bool.and_false]
def qJT(T:Tab)(hT:HT T)(vs:CL Aq)(es:CL Ah)(tv te:CO)(hn:vs.length<=1000)(hl:vs.length=es.length){k:KC (PV×CO)}{r:CG}{fr:Fr}{H:CW}
  (he:evB vs es=true->k (.exit 0) [(15,.d (.b false)),(14,.d (I es.length)),(13,.d (I es.length)),(12,.d (.l (K1 2) (es.map Ah.dv) te)),(0,.d (.l (K1 2) (vs.map Aq.dv) tv))] []=r)
  (hr:evB vs es=false->∀fr J,fr.get 4=.d (.b false)->qao fr=[]->k .ret fr J=r)
  (h0:gc [0,12,13,14] 0 ⟨fr,H⟩=⟨[(14,.d (I 0)),(13,.d (I es.length)),(12,.d (.l (K1 2) (es.map Ah.dv) te)),(0,.d (.l (K1 2) (vs.map Aq.dv) tv))],[]⟩) :
  kC T.env 0 fr H (.h (.loop [0,12,13,14] qmr,k))=r:=by
 refine qcq (λi:Nat=>⟨[(14,.d (I i)),(13,.d (I es.length)),(12,.d (.l (K1 2) (es.map Ah.dv) te)),(0,.d (.l (K1 2) (vs.map Aq.dv) tv))],[]⟩) (λi=>i<=es.length/\evB vs es=evB (vs.drop i) (es.drop i)) (λi=>es.length-i) ?_ 0 ⟨zzK _,by simp⟩ h0;rintro B-i ⟨hi,ha⟩ hx;by_cases hlt:i<es.length
 ·have h1:(i:Int)<es.length:=by omega
  have h1':(i:Int)<vs.length:=by omega
  have hlt':i<vs.length:=by omega
  have h3:=wr1 (i:=i) (by omega);have e:=qvx T hT es[i];rw[zzz hlt,zzz hlt',evB]at ha;by_cases c:es[i].Typ=vs[i].Typ
  ·cases hk:okV es[i]with
   |true=>rw[hk,decide_eq_true c,Bool.true_and,Bool.true_and]at ha;rw[hk]at e;have hx':=hx (i+1) ⟨by omega,ha⟩ (by omega);simp[qmr,h1,h1',hlt,hlt',c,e,bne,zzj,h3];exact hx' _ _ (by simp)
   |false=>rw[hk,Bool.and_false,Bool.false_and]at ha;rw[hk]at e;have hr':=hr ha;simp[qmr,h1,h1',hlt,hlt',c,e,bne,zzj,h3];exact hr' _ _ (by simp[Fr.get]) (by simp[qao,gh])
  ·rw[decide_eq_false c,Bool.false_and,Bool.false_and]at ha;have g:=qae c;have hr':=hr ha;simp[qmr,h1,h1',hlt,hlt',c,g,e,bne,zzj,h3];exact hr' _ _ (by simp[Fr.get]) (by simp[qao,gh])
 ·have:i=es.length:=by omega
  subst this;rw[zzF (zzt _),zzF (by omega)]at ha;have he':=he ha;have h1:¬((es.length:Int)<es.length):=by omega
  simp[qmr];exact he'
def qRR(T:Tab)(hT:HT T)(vs:CL Aq)(es:CL Ah)(tv te:CO)(hn:vs.length<=1000):T.val 946 [.l (K1 2) (vs.map Aq.dv) tv,.l (K1 2) (es.map Ah.dv) te]=some (.d (.b (evB vs es)),false):=by
 rw[qab T (hT 946 F946 rfl) rfl];by_cases hl:vs.length=es.length
 ·have lp:=λk r fr H=>@qJT T hT vs es tv te hn hl k r fr H;have hli:((vs.length:Int)==(es.length:Int))=true:=by simp[hl]
  simp[F946,Fr.Aa,hl,bne];refine lp _ _ _ _ (λh=>?_) (λh fr J h4 hg=>?_) (by simp)
  ·rw[h];simp
  ·rw[h];simp[h4,hg]
 ·have hli:((vs.length:Int)==(es.length:Int))=false:=qae (by omega);have hli2:¬((vs.length:Int)=(es.length:Int)):=by omega
  rw[qxG vs es hl];simp[F946,Fr.Aa,hl,hli,hli2,bne]
def qKN(T:Tab)(hT:HT T)(hA:HA T)(vs:CL Aq)(tv:CO)(hv:vs.length<=1000):∀(n:Nat) (x:Ae),SizeOf.sizeOf x.dv<n->x.ok->∃p,T.val 400 [x.dv,.l (K1 2) (vs.map Aq.dv) tv]=some (two p):=by
 intro n;induction n with
 |zero=>intro x h;exact absurd h (zzm _)
 |succ n ih=>
  intro x hn hx;by_cases h:x.Op=1\/x.Op=2\/x.Op=3\/x.Op=4
  ·exact⟨_,qvr T hT x vs tv hv h⟩
  ·obtain⟨l,h2,h3,h4⟩:=qnb hx;obtain⟨g,hg⟩:=qkv (P:=λa p=>T.val 400 [a.dv,.l (K1 2) (vs.map Aq.dv) tv]=some (two p)) (λa ha=>ih a (by have:=qna h2 ha;omega) (h3 a ha));exact⟨_,qCU T hT hA x l h2 h4 _ g hg (by omega) (by omega) (by omega) (by omega)⟩
def qCS(T:Tab)(hT:HT T)(hN:HNm T)(x:Ae)(hx:x.ok)(V:DV)(p:Int×Int)(hp:T.val 400 [x.dv,V]=some (two p)):∃q,T.val 387 [x.dv,V]=some (two q)/\(q.2=0->q=p):=by
 obtain⟨n,e⟩:=qQM T hT hN x hx;by_cases h:n=0
 ·subst h;refine⟨p,?_,λ_=>rfl⟩;unfold two at *
  rw[qab T (hT 387 qiu rfl) rfl];simp[qiu,Fr.Aa,e,hp]
 ·have g:=qae h;refine⟨(0,n),?_,λh0=>absurd h0 h⟩;unfold two at *
  rw[qab T (hT 387 qiu rfl) rfl];simp[qiu,Fr.Aa,e,h,g,bne]
def qRN(T:Tab)(hT:HT T)(hA:HA T)(hN:HNm T)(vs:CL Aq)(es:CL Ah)(tv te:CO)(hv:vs.length<=1000)(hi:∀e∈es,e.i)(h945:T.val 945 [.l (K1 2) (vs.map Aq.dv) tv]=some (.d (I 0),false))(x:Ae)(hx:x.ok) :
  ∃q:Ah×Int,T.val 916 [x.dv,.l (K1 2) (vs.map Aq.dv) tv,.l (K1 2) (es.map Ah.dv) te]=some (qa4 q):=by
 have e946:=qRR T hT vs es tv te hv;cases hb:evB vs es with
 |true=>
  rw[hb]at e946;obtain⟨p,h400,h947⟩:=qQo T hT hA vs es tv te hv (qxF vs es hi hb) _ x (Nat.lt_succ_self _) hx;obtain⟨q,h387,hq⟩:=qCS T hT hN x hx _ p h400;by_cases h0:q.2=0
  ·obtain⟨v,e947,-⟩:=h947 (by rw[<-hq h0];exact h0);refine⟨v,?_⟩;obtain⟨q1,q2⟩:=q;simp only at h0;subst h0;unfold two at h387;unfold qa4 at e947⊢;rw[qab T (hT 916 qen rfl) rfl];simp[qen,Fr.Aa,h945,h387,e946,e947]
  ·refine⟨(⟨0,0⟩,q.2),?_⟩;have g:=qae h0;unfold two at h387;unfold qa4;rw[qab T (hT 916 qen rfl) rfl];simp[qen,Fr.Aa,h945,h387,h0,g,bne,↓qak,↓qam,↓qal,putAt,mkA,qac,qai,qan,qaj,Ah.dv]
 |false=>
  rw[hb]at e946;obtain⟨p,h400⟩:=qKN T hT hA vs tv hv _ x (Nat.lt_succ_self _) hx;obtain⟨q,h387,-⟩:=qCS T hT hN x hx _ p h400;by_cases h0:q.2=0
  ·refine⟨(⟨0,0⟩,1),?_⟩;obtain⟨q1,q2⟩:=q;simp only at h0;subst h0;unfold two at h387;unfold qa4;rw[qab T (hT 916 qen rfl) rfl];simp[qen,Fr.Aa,h945,h387,e946,↓qak,↓qam,↓qal,putAt,mkA,qac,qai,qan,qaj,Ah.dv]
  ·refine⟨(⟨0,0⟩,q.2),?_⟩;have g:=qae h0;unfold two at h387;unfold qa4;rw[qab T (hT 916 qen rfl) rfl];simp[qen,Fr.Aa,h945,h387,h0,g,bne,↓qak,↓qam,↓qal,putAt,mkA,qac,qai,qan,qaj,Ah.dv]
def qdf(f:Ao)(E:DV):DV:=.a [.s f.Name,I f.Event,I f.When.Op,I f.When.N,.s f.When.S,.l (K1 4) f.When.AR.l f.When.AR.t,I f.Amount.Op,I f.Amount.N,.s f.Amount.S,.l (K1 4) f.Amount.AR.l f.Amount.AR.t,E]
@[simp] def qOv(f:Ao)(E:DV):Sim.fits (K1 11) (.d (qdf f E))=true:=rfl
@[simp] def qSy(f:Ao)(E:DV)(H:CW):Sim.AC H (.d (qdf f E))=some (.d (qdf f E),false):=rfl
@[simp] def qSv(f:Ao)(E:DV):(qdf f E).cells.length=11:=rfl
@[simp] def qSw(f:Ao)(E:DV):((qdf f E).cells.drop 2).take 4=Ae.cells f.When:=rfl
@[simp] def qSx(f:Ao)(E:DV):((qdf f E).cells.drop 6).take 4=Ae.cells f.Amount:=rfl
@[simp] def qSu(f:Ao)(E:DV):(qdf f E).cells[10]? = some E:=rfl
def qRL(T:Tab)(h8:H8 T)(f:Ao)(V:DV)(es:Cy)(te o:CO)(q:Ah×Int)(e371:T.val 371 []=some (.d V,o))(e916:T.val 916 [f.When.dv,V,.l (K1 2) es te]=some (qa4 q)):T.val 886 [qdf f (.l (K1 2) es te)]=some (qa4 q):=by unfold qa4 at e916⊢;rw[qab T (h8 886 ql6 rfl) rfl];simp[ql6,Fr.Aa,e371,e916]
def qRM(T:Tab)(h8:H8 T)(f:Ao)(V:DV)(es:Cy)(te o:CO)(q:Ah×Int)(e371:T.val 371 []=some (.d V,o))(e916:T.val 916 [f.Amount.dv,V,.l (K1 2) es te]=some (qa4 q)):T.val 887 [qdf f (.l (K1 2) es te)]=some (qa4 q):=by unfold qa4 at e916⊢;rw[qab T (h8 887 ql7 rfl) rfl];simp[ql7,Fr.Aa,e371,e916]
def qwY(p q:Ah×Int):Int×Int:=if p.2=0/\p.1.Typ=5/\p.1.N=1 then (if q.2=0 then (max 0 q.1.N,0)else (0,q.2))else (0,p.2)
def qRw(T:Tab)(h8:H8 T)(D:DV)(hD:Sim.fits (K1 11) (.d D)=true)(p q:Ah×Int)(e1:T.val 886 [D]=some (qa4 p))(e2:T.val 887 [D]=some (qa4 q)):T.val 802 [D]=some (two (qwY p q)):=by
 unfold qa4 at e1 e2;unfold two qwY;obtain⟨⟨t,n⟩,e⟩:=p;obtain⟨⟨u,m⟩,f⟩:=q;simp only[Ah.dv]at e1 e2⊢;rw[qab T (h8 802 qfd rfl) rfl];by_cases h0:e=0
 ·by_cases h1:t=5
  ·by_cases h2:n=1
   ·by_cases h3:f=0
    ·rw[if_pos ⟨h0,h1,h2⟩,if_pos h3];simp[qfd,Fr.Aa,hD,eqA,eqL,eqK,↓qak,↓qam,↓qal,putAt,mkA,qac,qai,qan,qaj,qa6,qjn,e1,e2,h0,h1,h2,h3]
    ·have g3:=qae h3;rw[if_pos ⟨h0,h1,h2⟩,if_neg h3];simp[qfd,Fr.Aa,hD,eqA,eqL,eqK,↓qak,↓qam,↓qal,putAt,mkA,qac,qai,qan,qaj,qa6,qjn,e1,e2,h0,h1,h2,h3,g3,bne]
   ·have g2:=qae h2;rw[if_neg (λc=>h2 c.2.2)];simp[qfd,Fr.Aa,hD,eqA,eqL,eqK,↓qak,↓qam,↓qal,putAt,mkA,qac,qai,qan,qaj,qa6,qjn,e1,h0,h1,h2,g2,bne]
  ·have g1:=qae h1;rw[if_neg (λc=>h1 c.2.1)];simp[qfd,Fr.Aa,hD,eqA,eqL,eqK,↓qak,↓qam,↓qal,putAt,mkA,qac,qai,qan,qaj,qa6,qjn,e1,h0,h1,g1,bne]
 ·have g0:=qae h0;rw[if_neg (λc=>h0 c.1)];simp[qfd,Fr.Aa,hD,eqA,eqL,eqK,↓qak,↓qam,↓qal,putAt,mkA,qac,qai,qan,qaj,qa6,qjn,e1,h0,g0,bne]
def fnd(l:CL Ad)(x:Ad):CO:=match l[plc l x]? with|some y=>!ltL x y|none=>false
def qiZ(k:IntKind)(n:Int):DV.cells (.i k n)=[.i k n]:=rfl
def zM(x:Ad):Ad:=⟨0,x.Amount,x.Au⟩
def mdv(x:Ad):DV:=.a [.s x.Au,I x.Amount]
def Z0(g:CL Ad):Prop:=∀y∈g,y.AL=0
def qeB(x:Ad):(mdv x).cells=[.s x.Au,I x.Amount]:=rfl
def qnh(x:Ad):fits (K1 2) (.d (mdv x))=true:=rfl
def qDg{g:CL Ad}(x:Ad)(h:Z0 g):Z0 (qco g (zM x)):=λy hy=>by
 rcases qtp hy with h1|h1
 ·exact h y h1
 ·exact h1.1
def qw1{a b:Ad}(ha:a.AL=0)(hb:b.AL=0):cmL a b=qiV a.Au b.Au:=by simp[cmL,ha,hb,qmK]
def qCP(T:Tab)(hN:HN T)(hP:HP T)(y:Ad)(c:CB):T.val 267 [mdv y,.s c]=some (.d (I (qiV y.Au c)),false):=by rw[qab T (hP 267 qls rfl) rfl];have e:=qQH T hN y.Au c;simp[qls,Fr.Aa,e,qnh,qeB]
def qJu(T:Tab)(hN:HN T)(hP:HP T)(l:CL Ad)(hs:Srt l)(hz0:Z0 l)(x:Ad)(hx0:x.AL=0)(w:DV)(t:CO)(hn:l.length<1000000){k:KC (PV×CW)}{r:CJ}
  (he:∀b,k (.exit 0) [(17,.d (.b b)),(10,.d (I (plc l x))),(9,.d (I (plc l x))),(8,.d (I l.length)),(2,.f 267 []),(1,.d (.s x.Au)),(0,.r 0 (K1 2) 0 l.length t)] [some (.sl (K1 2) 0 (l.map mdv)),some (.box (K1 3) (.d w))]=r)
  (lo hi:Nat) (h1:lo<=plc l x) (h2:plc l x<=hi) (h3:hi<=l.length) {fr:Fr} {H:CW}
  (h0:gc [0,1,2,8,9,10] 2 ⟨fr,H⟩=⟨[(10,.d (I hi)),(9,.d (I lo)),(8,.d (I l.length)),(2,.f 267 []),(1,.d (.s x.Au)),(0,.r 0 (K1 2) 0 l.length t)],[some (.sl (K1 2) 0 (l.map mdv)),some (.box (K1 3) (.d w))]⟩) :
  kC T.env 2 fr H (.h (.loop [0,1,2,8,9,10] qn8,k))=r:=by
 refine qcq (λs:Nat×Nat=>⟨[(10,.d (I s.2)),(9,.d (I s.1)),(8,.d (I l.length)),(2,.f 267 []),(1,.d (.s x.Au)),(0,.r 0 (K1 2) 0 l.length t)],[some (.sl (K1 2) 0 (l.map mdv)),some (.box (K1 3) (.d w))]⟩) (λs=>s.1<=plc l x/\plc l x<=s.2/\s.2<=l.length) (λs=>s.2-s.1) ?_ (lo,hi) ⟨h1,h2,h3⟩ h0;rintro B-⟨a,b⟩ ⟨ha,hb,hc⟩ hx;simp only at ha hb hc hx⊢;have hx':=λ(s':Nat×Nat)=>hx s';clear hx;by_cases hab:a<b
 ·obtain⟨m,hm⟩:∃m,(a+b)/2=m:=⟨_,rfl⟩;have g1:((a:Int)<b):=by omega
  have g2:m<l.length:=by omega
  have g3:(m:Int)<l.length:=by omega
  have w1:IntKind.i64.wrap ((a:Int)+b)=((a+b:Nat):Int):=by rw[wrI (by omega) (by omega)];omega
  have w2:IntKind.u64.wrap ((a+b:Nat):Int)=((a+b:Nat):Int):=wrU (by omega) (by omega);have w3:Int.fdiv ((a+b:Nat):Int) (2^min 1 IntKind.u64.bits)=(((a+b)/2:Nat):Int):=qGH (a+b);rw[hm]at w3;have w4:IntKind.i64.wrap (m:Int)=m:=wrI (by omega) (by omega);have w5:IntKind.i64.wrap ((m:Int)+1)=(m:Int)+1:=wrI (by omega) (by omega);obtain⟨z,hz⟩:∃z:Int,((a+b:Nat):Int)=z:=⟨_,rfl⟩;rw[hz]at w1 w2 w3;have e:=qCP T hN hP l[m] x.Au;have e2:=qFd l[m] x;rw[qw1 (hz0 _ (zzs _)) hx0]at e2;simp[qn8,hab,g1,g2,g3,w1,w2,w3,w4,w5,↓qay,↓qaR,↓qED,↓qcu,↓qcS,↓qoR,↓qoH,qac,zzj,e,e2];refine qbx (λh=>?_) (λh=>?_)
  ·have hlt:m<plc l x:=by
    by_cases hh:m<plc l x
    ·exact hh
    ·rw[qOx hs x m g2 (by omega)]at h;cases h
   simp[h,w4,w5,g1,g3];refine hx' (m+1,b) ⟨by omega,by omega,by omega⟩ (by simp only;omega) _ _ ?_;simp
  ·have hge:plc l x<=m:=by
    by_cases hh:plc l x<=m
    ·exact hh
    ·rw[qtP l x m g2 (by omega)]at h;cases h
   simp[h,w4,w5,g1,g3];refine hx' (a,m) ⟨by omega,by omega,by omega⟩ (by simp only;omega) _ _ ?_;simp
 ·have:a=b:=by omega
  subst this;have hp:plc l x=a:=by omega
  rw[hp]at he;simp[qn8,he]
def qO2(T:Tab)(hN:HN T)(hP:HP T)(l:CL Ad)(hs:Srt l)(hz0:Z0 l)(x:Ad)(hx0:x.AL=0)(w:DV)(t:CO)(hn:l.length<1000000) :
  T.ref 266 [.r 0 (K1 2) 0 l.length t,.d (.s x.Au),.f 267 []] [some (.sl (K1 2) 0 (l.map mdv)),some (.box (K1 3) (.d w))]=some (.t [.d (I (plc l x)),.d (.b (fnd l x))],[some (.sl (K1 2) 0 (l.map mdv)),some (.box (K1 3) (.d w))]):=by
 rw[qdP T (hP 266 F266 rfl) rfl];have hH:Cl [some (.sl (K1 2) 0 (l.map mdv)),some (.box (K1 3) (.d w))]:=λr h=>by simp[qat,qaO,Obj.refs,PV.refs]at h
 have lp:=λk r he fr H=>@qJu T hN hP l hs hz0 x hx0 w t hn k r he 0 l.length (zzK _) (qqb l x) (zzt _) fr H;have hgc:∀v J,gcV 2 (.t [.d v,.d (.b (fnd l x))]) (some (.sl (K1 2) 0 (l.map mdv))::some (.box (K1 3) (.d w))::J)=(.t [.d v,.d (.b (fnd l x))],[some (.sl (K1 2) 0 (l.map mdv)),some (.box (K1 3) (.d w))]):=λv J=>qpb hH (by simp[PV.refs,PV.Av]);simp[F266,Fr.Aa];refine lp _ _ (λb=>?_) _ _ (by simp);by_cases hp:plc l x<l.length
 ·have e:=qCP T hN hP l[plc l x] x.Au;have e2:=qFc l[plc l x] x (qnx l x hp);rw[qw1 (hz0 _ (zzs _)) hx0]at e2;have hf:fnd l x=!ltL x l[plc l x]:=by rw[fnd,zze hp]
  rw[<-hf]at e2;have g3:(plc l x:Int)<l.length:=by omega
  generalize plc l x=m at *
  simp[hp,g3,↓qcu,↓qcS,↓qoR,↓qoH,qac,zzj,e,e2,qcW];exact hgc _ _
 ·have hf:fnd l x=false:=by rw[fnd,List.getElem?_eq_none (by omega)]
  have hp':¬((plc l x:Int)<l.length):=by omega
  rw[hf]at hgc⊢;simp[hp,hp',qcW];exact hgc _ _
def qO3(T:Tab)(hP:HP T)(c:CB)(w:DV) :
  T.ref 266 [.d (.l (K1 2) [] true),.d (.s c),.f 267 []] [some (.box (K1 3) (.d w))]=some (.t [.d (I 0),.d (.b false)],[some (.box (K1 3) (.d w))]):=by
 rw[qdP T (hP 266 F266 rfl) rfl];have hH:Cl [some (.box (K1 3) (.d w))]:=λr h=>by simp[qat,qaO,Obj.refs,PV.refs]at h
 have hgc:∀J,gcV 1 (.t [.d (I 0),.d (.b false)]) (some (.box (K1 3) (.d w))::J)=(.t [.d (I 0),.d (.b false)],[some (.box (K1 3) (.d w))]):=λJ=>qpb hH (by simp[PV.refs,PV.Av]);simp[F266,Fr.Aa];rw[qji];simp;simp[qn8,qcW];exact hgc _
abbrev HI2(T:Tab):Prop:=∀args H,T.ref 269 args H=qkM (K1 2) 24 args H
def qp5(g:CL Ad)(h:g≠[]):qah (K1 2) (g.map mdv)=.r 0 (K1 2) 0 g.length false:=by
 cases g with
 |nil=>exact absurd rfl h
 |cons a b=>simp[qah]
def qp4(g:CL Ad)(h:g≠[]):qaz (K1 2) (g.map mdv)=[some (.sl (K1 2) 0 (g.map mdv))]:=by
 cases g with
 |nil=>exact absurd rfl h
 |cons a b=>simp[qaz]
def qa1(g:CL Ad)(x:Ad):CL Ad:=qco g (zM x)
def qjw(l:Cy):(PV.d (.a l)).cells=l.map .d:=rfl
def qi0(l:Cy):DV.cells (.a l)=l:=rfl
def qtq(a b:DV):mkD (K1 2) [a,b]=some (.a [a,b]):=rfl
def qJt(T:Tab)(hN:HN T)(hP:HP T)(hI:HI2 T)(l:CL Ad)(t:CO)(hn:l.length<1000000)(ho:∀x∈l,w64 x.Amount=x.Amount){k:KC (PV×CO)}{fr:Fr}{H:CW}
  (h0:gc [3,8,9,10] 0 ⟨fr,H⟩=⟨[(10,.d (I 0)),(9,.d (I l.length)),(8,.d (.l (K1 3) (l.map Ad.dv) t)),(3,.d (.l (K1 2) [] true))],[]⟩) :
  kC T.env 0 fr H (.h (.loop [3,8,9,10] qj7,k))=k (.exit 0) [(11,.d (.b false)),(10,.d (I l.length)),(9,.d (I l.length)),(8,.d (.l (K1 3) (l.map Ad.dv) t)),(3,qah (K1 2) ((l.foldl qa1 []).map mdv))] (qaz (K1 2) ((l.foldl qa1 []).map mdv)):=by
 rw[qcr l (λi (g:CL Ad)=>⟨[(10,.d (I i)),(9,.d (I l.length)),(8,.d (.l (K1 3) (l.map Ad.dv) t)),(3,qah (K1 2) (g.map mdv))],qaz (K1 2) (g.map mdv)⟩) (λi g=>(Srt g/\Z0 g)/\g.length<=i) (λ_ g x c=>c (qa1 g x)) (λg=>k (.exit 0) [(11,.d (.b false)),(10,.d (I l.length)),(9,.d (I l.length)),(8,.d (.l (K1 3) (l.map Ad.dv) t)),(3,qah (K1 2) (g.map mdv))] (qaz (K1 2) (g.map mdv))) ?_ ?_ (b0:=[]) h0 ⟨⟨List.Pairwise.nil,λ_ h=>by cases h⟩,zzt _⟩]
 ·rw[qii (λ_ g x=>qa1 g x) _ _ (λ_ _ _ _=>rfl)];have:∀(l:CL Ad) (i:Nat) (g:CL Ad),qaU (λ_ g x=>qa1 g x) i g l=l.foldl qa1 g:=by
   intro l;induction l with
   |nil=>intro _ _;rfl
   |cons x l ih=>intro i g;rw[qaU,ih,List.foldl_cons]
  rw[this]
 ·intro B _ g _;cases g with
  |nil=>simp[qj7,qah,qaz]
  |cons y g=>simp[qj7,qah,qaz]
 ·intro B _ i g hi hg c hc;have h1:(i:Int)<l.length:=by omega
  have h3:=wr1 (i:=i) (by omega);have hg':(Srt (qa1 g l[i])/\Z0 (qa1 g l[i]))/\(qa1 g l[i]).length<=i+1:=⟨⟨qu9 _ hg.1.1,qDg _ hg.1.2⟩,zzL (qpp _ _) (by omega)⟩;have hc':=λfr H=>hc (qa1 g l[i]) fr H hg';have hw:=ho l[i] (zzs _);clear hc;generalize hx:l[i]=x at *
  have hw':IntKind.i64.wrap x.Amount=x.Amount:=hw;cases g with
  |nil=>have e:=qO3 T hP x.Au x.dv;have hz:qa1 [] x=[zM x]:=rfl;rw[hz]at hc'⊢;simp[qj7,qah,qaz,h1,hi,h3,hw',hx,e,hI,qkM,qbb,qdD,qdF,qdE,qak,qam,qal,qbK,qaj,putAt,mkA,qac,qai,List.drop_succ_cons,List.drop_zero,List.take_succ_cons,List.take_zero,List.cons_append,List.nil_append,qjw,qi0,qtq,qiZ,↓qcu,-qdh,↓qlf,↓qnM,↓qle,↓qcS,↓qim];exact hc' _ _ (by simp[qah,qaz,mdv,zM])
  |cons y g=>
   obtain⟨gl,hgl⟩:∃gl,y::g=gl:=⟨_,rfl⟩;have hne:y::g≠[]:=by simp
   rw[hgl]at hg hg' hc' hne⊢;simp only[qp5 _ hne,qp4 _ hne];have hne2:qa1 gl x≠[]:=qyE gl (zM x);simp only[qp5 _ hne2,qp4 _ hne2]at hc';have hlen:gl.length<1000000:=by omega
   have e:=qO2 T hN hP gl hg.1.1 hg.1.2 (zM x) rfl x.dv false hlen;have ec:(zM x).Au=x.Au:=rfl;rw[ec]at e;have hae:∀p (h:p<gl.length),gl[p].AL=0:=λp h=>hg.1.2 _ (zzs _);cases hf:fnd gl (zM x)with
   |true=>
    rw[hf]at e;have hp:plc gl (zM x)<gl.length:=by
     unfold fnd at hf;split at hf
     ·rename_i h;exact (zzk.1 h).1
     ·cases hf
    have hl:ltL (zM x) gl[plc gl (zM x)]=false:=by rw[fnd,zze hp]at hf;simpa using hf
    have hins:qa1 gl x=gl.set (plc gl (zM x)) (qdS gl[plc gl (zM x)] (zM x)):=qsJ gl (zM x) hp hl;rw[hins]at hc'⊢;generalize plc gl (zM x)=p at *
    have g3:(p:Int)<gl.length:=by omega
    simp[qj7,h1,hi,h3,hw',hx,e,hp,g3,zzj,qeB,qdD,qdF,qdE,qak,qam,qal,qbK,qaj,putAt,mkA,qac,qai,List.drop_succ_cons,List.drop_zero,List.take_succ_cons,List.take_zero,List.cons_append,List.nil_append,qjw,qi0,qtq,qiZ,↓qcu,-qdh,↓qlf,↓qnM,↓qle,↓qcS,↓qim];have hm:DV.a [.s gl[p].Au,.i .i64 (IntKind.i64.wrap (gl[p].Amount+x.Amount))]=mdv (qdS gl[p] (zM x)):=rfl;rw[hm,show (gl.map mdv).set p (mdv (qdS gl[p] (zM x)))=(gl.set p (qdS gl[p] (zM x))).map mdv from List.map_set.symm];exact hc' _ _ (by simp)
   |false=>
    rw[hf]at e;have hl:∀h:plc gl (zM x)<gl.length,ltL (zM x) gl[plc gl (zM x)]=true:=λh=>by rw[fnd,zze h]at hf;simpa using hf
    have hpl:=qqb gl (zM x);have hins:qa1 gl x=gl.take (plc gl (zM x))++zM x::gl.drop (plc gl (zM x)):=qpq gl (zM x) hl;rw[hins]at hc'⊢;generalize plc gl (zM x)=p at *
    have g3:(p:Int)<=gl.length:=by omega
    have g4:(gl.length+1)*24<=140737488355328:=by omega
    have g5:(gl.map mdv).take gl.length=gl.map mdv:=zzv (by simp);have g6:Nat.beq 0 2=false:=rfl;have g7:(p:Int)<gl.length+1:=by omega
    have g8:min p gl.length=p:=by omega
    have g9:gl.length+1<=p+(gl.length-p+1):=by omega
    have gt:(List.take p (gl.map mdv)).length=p:=by simp;omega
    have g10:∀A,(List.take p (gl.map mdv)++A::List.drop p (gl.map mdv))[p]? = some A:=λA=>by rw[List.getElem?_append_right (by omega),gt,Nat.sub_self];rfl
    have g11:∀A B,(List.take p (gl.map mdv)++A::List.drop p (gl.map mdv)).set p B=List.take p (gl.map mdv)++B::List.drop p (gl.map mdv):=λA B=>by rw[List.set_append_right _ _ (by omega),gt,Nat.sub_self];rfl
    simp[qj7,h1,hi,h3,hw',hx,e,hI,qkM,qbb,g3,g4,g5,g6,g7,g8,g9,g10,g11,qeB,qdD,qdF,qdE,qak,qam,qal,qbK,qaj,putAt,mkA,qac,qai,List.drop_succ_cons,List.drop_zero,List.take_succ_cons,List.take_zero,List.cons_append,List.nil_append,qjw,qi0,qtq,qiZ,↓qcu,-qdh,↓qlf,↓qnM,↓qle,↓qcS,↓qim];have hm:DV.a [.s x.Au,.i .i64 x.Amount]=mdv (zM x):=rfl;rw[hm];refine hc' _ _ ?_;simp;omega
def qCN(T:Tab)(hN:HN T)(hP:HP T)(hI:HI2 T)(l:CL Ad)(t:CO)(hn:l.length<1000000)(ho:∀x∈l,w64 x.Amount=x.Amount):T.val 186 [.l (K1 3) (l.map Ad.dv) t]=some (.d (.l (K1 2) ((l.foldl qa1 []).map mdv) false),true):=by
 rw[qab T (hP 186 F186 rfl) rfl];have lp:=λk fr H=>@qJt T hN hP hI l t hn ho k fr H;simp[F186,Fr.Aa];refine (lp _ _ _ (by simp)).trans ?_;cases l.foldl qa1 []with
 |nil=>simp[qah,qaz]
 |cons x g=>have ht:(g.map mdv).take g.length=g.map mdv:=zzv (by simp);simp[qah,qaz,ht]
section
variable {R:Type}{H:CW}{id:Nat}{q:PV->CW->CK R}{k:K}{b:Nat}
def qoB{o off len:Nat}{k':K}{ys:Cy}:bo2 (qc6 H id k b (.r o k' off len false) ys) (.h q)=match H.obj o with
  |some (.sl k'' ro es)=>chk ((K.eq k k'&&K.eq k k''&&decide (off+len<=es.length)&&decide ((len+ys.length)*b<=2^47))=true) (.h (chk (ro<=off+len) (.h (q (.r id k 0 (len+ys.length) false) ((H.put o none).put id (some (.sl k (ro-off) ((es.drop off).take len++ys))))))))
  |_=>none:=by
 simp only[qc6,qcb,qbb,qcD,Bool.true_or,if_true,zzg,if_false];cases H.obj o with
 |none=>rfl
 |some w=>
  cases w with
  |sl k'' ro es=>
   simp only[chk];by_cases h:(K.eq k k'&&K.eq k k''&&decide (off+len<=es.length)&&decide ((len+ys.length)*b<=2^47))=true
   ·simp only[h,if_true];by_cases g:ro<=off+len
    ·simp only[g,if_true];rfl
    ·simp only[g,if_false];rfl
   ·simp only[h,if_false,zzg];rfl
  |_=>rfl
end
def qJ0{α:Type}(m:CL α)(x:α)(p n:Nat)(hp:p<=n)(hn:m.length=n):(((m.take p).take p++[x]).take (p+1))++(m.drop p).take (n-p)=m.take p++x::m.drop p:=by subst hn;have a:(m.take p++[x]).take (p+1)=m.take p++[x]:=zzv (by simp;omega);have b:(m.drop p).take (m.length-p)=m.drop p:=zzv (by simp);rw[List.take_take,Nat.min_self,a,b];simp
def qJ1{α:Type}(m:CL α)(x:α)(p n:Nat)(hp:p<n)(hn:m.length=n):(((m.take p).take p++[x]).take (p+1))++(m.drop (p+1)).take (n-(p+1))=m.set p x:=by subst hn;have a:(m.take p++[x]).take (p+1)=m.take p++[x]:=zzv (by simp;omega);have b:(m.drop (p+1)).take (m.length-(p+1))=m.drop (p+1):=zzv (by simp);rw[List.take_take,Nat.min_self,a,b,List.set_eq_take_append_cons_drop,if_pos hp];simp
def qto{a b:Ad}(ha:a.AL=0)(hb:b.AL=0):ltL a b=Op.bytesLess a.Au b.Au:=by simp[ltL,ha,hb]
def qJK(T:Tab)(l g:CL Ad)(hz0:Z0 g)(t:CO)(i:Nat)(hi:i<l.length)(hn:l.length<1000000)(hg:g.length<1000000){k:KC (PV×CO)}{r:CG}{fr:Fr}{H:CW}
  (he:∀b,k (.exit 2) [(30,.d (.b b)),(6,.d (I (plc g (zM l[i])))),(5,.d (.l (K1 2) [] true)),(4,.d (I i)),(3,.r 0 (K1 2) 0 g.length false),(0,.d (.l (K1 3) (l.map Ad.dv) t))] [some (.sl (K1 2) 0 (g.map mdv))]=r)
  (h0:gc [0,3,4,5,6] 0 ⟨fr,H⟩=⟨[(6,.d (I 0)),(5,.d (.l (K1 2) [] true)),(4,.d (I i)),(3,.r 0 (K1 2) 0 g.length false),(0,.d (.l (K1 3) (l.map Ad.dv) t))],[some (.sl (K1 2) 0 (g.map mdv))]⟩) :
  kC T.env 0 fr H (.h (.loop [0,3,4,5,6] qmp,k))=r:=by
 have h1:(i:Int)<l.length:=by omega
 refine qh9 (λj:Nat=>⟨[(6,.d (I j)),(5,.d (.l (K1 2) [] true)),(4,.d (I i)),(3,.r 0 (K1 2) 0 g.length false),(0,.d (.l (K1 3) (l.map Ad.dv) t))],[some (.sl (K1 2) 0 (g.map mdv))]⟩) (λj=>j) (plc g (zM l[i])) ?_ ?_ (by rw[h0];rfl)
 ·intro B _;by_cases hp:plc g (zM l[i])<g.length
  ·have hat:=qnx g (zM l[i]) hp;rw[qto (hz0 _ (zzs _)) rfl]at hat;have ec:(zM l[i]).Au=l[i].Au:=rfl;rw[ec]at hat;generalize plc g (zM l[i])=p at *
   have g1:(p:Int)<g.length:=by omega
   simp[qmp,hp,g1,hi,h1,↓qcu,↓qcS,↓qim,zzj,qeB,↓qmE,hat,he]
  ·have hp':¬((plc g (zM l[i]):Int)<g.length):=by omega
   simp[qmp,hp,hp',hi,h1,↓qcu,↓qcS,he]
 ·intro B _ j hj c hc;have hjg:j<g.length:=Nat.lt_of_lt_of_le hj (qqb _ _);have hlt:=qtP g (zM l[i]) j hjg hj;rw[qto (hz0 _ (zzs _)) rfl]at hlt;have ec:(zM l[i]).Au=l[i].Au:=rfl;rw[ec]at hlt;have g1:(j:Int)<g.length:=by omega
  have w:IntKind.i64.wrap ((j:Int)+1)=(j:Int)+1:=wrI (by omega) (by omega);simp[qmp,hjg,g1,hi,h1,w,↓qcu,↓qcS,↓qim,zzj,qeB,↓qmE,hlt];exact hc _ _ (by simp)
def qJL(T:Tab)(l:CL Ad)(t:CO)(hn:l.length<1000000)(ho:∀x∈l,w64 x.Amount=x.Amount){k:KC (PV×CO)}{fr:Fr}{H:CW}
  (h0:gc [0,3,4] 0 ⟨fr,H⟩=⟨[(4,.d (I 0)),(3,.d (.l (K1 2) [] true)),(0,.d (.l (K1 3) (l.map Ad.dv) t))],[]⟩) :
  kC T.env 0 fr H (.h (.loop [0,3,4] qke,k))=k (.exit 0) [(11,.d (.b false)),(4,.d (I l.length)),(3,qah (K1 2) ((l.foldl qa1 []).map mdv)),(0,.d (.l (K1 3) (l.map Ad.dv) t))] (qaz (K1 2) ((l.foldl qa1 []).map mdv)):=by
 rw[qcr l (λi (g:CL Ad)=>⟨[(4,.d (I i)),(3,qah (K1 2) (g.map mdv)),(0,.d (.l (K1 3) (l.map Ad.dv) t))],qaz (K1 2) (g.map mdv)⟩) (λi g=>(Srt g/\Z0 g)/\g.length<=i) (λ_ g x c=>c (qa1 g x)) (λg=>k (.exit 0) [(11,.d (.b false)),(4,.d (I l.length)),(3,qah (K1 2) (g.map mdv)),(0,.d (.l (K1 3) (l.map Ad.dv) t))] (qaz (K1 2) (g.map mdv))) ?_ ?_ (b0:=[]) h0 ⟨⟨List.Pairwise.nil,λ_ h=>by cases h⟩,zzt _⟩]
 ·rw[qii (λ_ g x=>qa1 g x) _ _ (λ_ _ _ _=>rfl)];have:∀(l:CL Ad) (i:Nat) (g:CL Ad),qaU (λ_ g x=>qa1 g x) i g l=l.foldl qa1 g:=by
   intro l;induction l with
   |nil=>intro _ _;rfl
   |cons x l ih=>intro i g;rw[qaU,ih,List.foldl_cons]
  rw[this]
 ·intro B _ g _;cases g with
  |nil=>simp[qke,qah,qaz]
  |cons y g=>simp[qke,qah,qaz]
 ·intro B _ i g hi hg c hc;have h1:(i:Int)<l.length:=by omega
  have h3:=wr1 (i:=i) (by omega);have hg':(Srt (qa1 g l[i])/\Z0 (qa1 g l[i]))/\(qa1 g l[i]).length<=i+1:=⟨⟨qu9 _ hg.1.1,qDg _ hg.1.2⟩,zzL (qpp _ _) (by omega)⟩;have hc':=λfr H=>hc (qa1 g l[i]) fr H hg';clear hc;cases g with
  |nil=>have hz:qa1 [] l[i]=[zM l[i]]:=rfl;rw[hz]at hc'⊢;simp[qke,qah,qaz,h1,hi,h3];rw[qji];simp;simp[qmp,h1,hi,h3,↓qEE,↓qoB,qdD,qdF,qdE,qak,qam,qal,qbK,qaj,putAt,mkA,qac,qai,List.drop_succ_cons,List.drop_zero,List.take_succ_cons,List.take_zero,List.cons_append,List.nil_append,qjw,qi0,qiZ];exact hc' _ _ (by simp[qah,qaz,mdv,zM])
  |cons y g=>
   obtain⟨gl,hgl⟩:∃gl,y::g=gl:=⟨_,rfl⟩;have hne:y::g≠[]:=by simp
   rw[hgl]at hg hg' hc' hne⊢;simp only[qp5 _ hne,qp4 _ hne];have hne2:qa1 gl l[i]≠[]:=qyE gl (zM l[i]);simp only[qp5 _ hne2,qp4 _ hne2]at hc';have hlen:gl.length<1000000:=by omega
   have lp:=λk r he fr H=>@qJK T l gl hg.1.2 t i hi hn hlen k r fr H he;have hpl:=qqb gl (zM l[i]);simp[qke,h1,hi,h3];refine lp _ _ (λb=>?_) _ _ (by simp);have hae:∀p (h:p<gl.length),gl[p].AL=0:=λp h=>hg.1.2 _ (zzs _);have hwx:=ho l[i] (zzs _);obtain⟨x,hx⟩:∃x,l[i]=x:=⟨_,rfl⟩;simp only[hx]at hc' hpl hg' hwx⊢;have ht:(gl.map mdv).take gl.length=gl.map mdv:=zzv (by simp);by_cases hp:plc gl (zM x)<gl.length
   ·have hat:=qnx gl (zM x) hp;by_cases hl:ltL (zM x) gl[plc gl (zM x)]=true
    ·have hins:qa1 gl x=gl.take (plc gl (zM x))++zM x::gl.drop (plc gl (zM x)):=qpq gl (zM x) (λ_=>hl);rw[hins]at hc'⊢;rw[qto rfl (hae _ hp)]at hl;have hq:(gl[plc gl (zM x)].Au==x.Au)=false:=by
      have ec:(zM x).Au=x.Au:=rfl;rw[ec]at hl;have:gl[plc gl (zM x)].Au≠x.Au:=λh=>by rw[h,qmB]at hl;cases hl
      simpa using this
     generalize plc gl (zM x)=p at *
     have g1:(p:Int)<gl.length:=by omega
     have g2:(p:Int)<=gl.length:=by omega
     have g4:p*24<=140737488355328:=by omega
     have g5:(p+1)*24<=140737488355328:=by omega
     have g6:(p+1+(gl.length-p))*24<=140737488355328:=by omega
     have g7:p+(gl.length-p)=gl.length:=by omega
     have g8:min p gl.length=p:=by omega
     have g9:((gl.map mdv).take p).length=p:=by simp;omega
     simp[hx,hi,h1,h3,hp,hpl,g1,g2,g4,g5,g6,g7,g8,g9,hq,ht,zzj,qeB,↓qcu,↓qcS,↓qim,↓qrE,↓qoB,qdD,qdF,qdE,qak,qam,qal,qbK,qaj,putAt,mkA,qac,qai,List.drop_succ_cons,List.drop_zero,List.take_succ_cons,List.take_zero,List.cons_append,List.nil_append,qjw,qi0,qiZ];refine hc' _ _ ?_;have hm:DV.a [.s x.Au,.i .i64 x.Amount]=mdv (zM x):=rfl;rw[hm,qJ0 (gl.map mdv) (mdv (zM x)) p gl.length (by omega) (by simp)];simp;omega
    ·have hl':ltL (zM x) gl[plc gl (zM x)]=false:=by simpa using hl
     have hins:qa1 gl x=gl.set (plc gl (zM x)) (qdS gl[plc gl (zM x)] (zM x)):=qsJ gl (zM x) hp hl';rw[hins]at hc'⊢;have hk:=qAh hl' hat;have hq:gl[plc gl (zM x)].Au=x.Au:=hk.2.symm;have hq2:(gl[plc gl (zM x)].Au==x.Au)=true:=by simpa using hq
     generalize plc gl (zM x)=p at *
     have g1:(p:Int)<gl.length:=by omega
     have g2:(p:Int)<=gl.length:=by omega
     have g4:p*24<=140737488355328:=by omega
     have g5:(p+1)*24<=140737488355328:=by omega
     have g6:(p+1+(gl.length-(p+1)))*24<=140737488355328:=by omega
     have g7:p+(gl.length-p)=gl.length:=by omega
     have g7':p+1+(gl.length-(p+1))=gl.length:=by omega
     have g8:min p gl.length=p:=by omega
     have g9:((gl.map mdv).take p).length=p:=by simp;omega
     have g10:(p:Int)+1<=gl.length:=by omega
     have g11:(0:Int)<=(p:Int)+1:=by omega
     have g12:((p:Int)+1).toNat=p+1:=by omega
     have g13:gl.length*24<=140737488355328:=by omega
     have w:IntKind.i64.wrap ((p:Int)+1)=(p:Int)+1:=wrI (by omega) (by omega);simp[hx,hi,h1,h3,hp,hpl,g1,g2,g4,g5,g6,g7,g7',g8,g9,g10,g11,g12,g13,w,hq2,ht,zzj,qeB,↓qcu,↓qcS,↓qim,↓qrE,↓qoB,qdD,qdF,qdE,qak,qam,qal,qbK,qaj,putAt,mkA,qac,qai,List.drop_succ_cons,List.drop_zero,List.take_succ_cons,List.take_zero,List.cons_append,List.nil_append,qjw,qi0,qiZ];refine hc' _ _ ?_;have hm:DV.a [.s x.Au,.i .i64 (IntKind.i64.wrap (x.Amount+gl[p].Amount))]=mdv (qdS gl[p] (zM x)):=by show _=DV.a [.s gl[p].Au,.i .i64 (w64 (gl[p].Amount+x.Amount))];rw[hq,w64,Int.add_comm]
     rw[hm,qJ1 (gl.map mdv) (mdv (qdS gl[p] (zM x))) p gl.length (by omega) (by simp)];rw[show (gl.map mdv).set p (mdv (qdS gl[p] (zM x)))=(gl.set p (qdS gl[p] (zM x))).map mdv from List.map_set.symm];simp[g7']
   ·have hins:qa1 gl x=gl.take (plc gl (zM x))++zM x::gl.drop (plc gl (zM x)):=qpq gl (zM x) (λh=>absurd h hp);rw[hins]at hc'⊢;have hpe:plc gl (zM x)=gl.length:=by omega
    rw[hpe]at hc'⊢;clear hp hpe hpl hins lp hae;generalize hz:gl.length=n at *
    have g4:n*24<=140737488355328:=by omega
    have g5:(n+1)*24<=140737488355328:=by omega
    have g9:((gl.map mdv).take n).length=n:=by simp;omega
    simp[hx,hi,h1,h3,hz,g4,g5,g9,ht,↓qcu,↓qcS,↓qrE,↓qoB,qdD,qdF,qdE,qak,qam,qal,qbK,qaj,putAt,mkA,qac,qai,List.drop_succ_cons,List.drop_zero,List.take_succ_cons,List.take_zero,List.cons_append,List.nil_append,qjw,qi0,qiZ];refine hc' _ _ ?_;have hm:DV.a [.s x.Au,.i .i64 x.Amount]=mdv (zM x):=rfl;rw[hm,zzv (by simp;omega)];have a1:gl.take n=gl:=zzv (by omega);have a2:gl.drop n=[]:=zzF (by omega);rw[a1,a2];simp[hz]
def qC3(T:Tab)(hP:HP T)(l:CL Ad)(t:CO)(hn:l.length<1000000)(ho:∀x∈l,w64 x.Amount=x.Amount):T.val 771 [.l (K1 3) (l.map Ad.dv) t]=some (.d (.l (K1 2) ((l.foldl qa1 []).map mdv) false),true):=by
 rw[qab T (hP 771 F771 rfl) rfl];have lp:=λk fr H=>@qJL T l t hn ho k fr H;simp[F771,Fr.Aa];refine (lp _ _ _ (by simp)).trans ?_;cases l.foldl qa1 []with
 |nil=>simp[qah,qaz]
 |cons x g=>have ht:(g.map mdv).take g.length=g.map mdv:=zzv (by simp);simp[qah,qaz,ht]
def qiQ(x:Ad):CO:=decide (x.AL<1)||(decide (x.Amount=0)||(decide (x.Amount < -1000000000000)||decide (1000000000000<x.Amount)))
def qcp(x:Ad):Int:=if qiQ x=true then 1 else if qdU x.Au=true then 0 else 14
def qcQ:CL Ad->Int
 |[]=>0
 |x::l=>if qcp x=0 then qcQ l else qcp x
def qiG(g:CL Ad):CO:=g.all λx=>x.Amount==0
def qgd(e:Ag):Int:=if qh4 e.Key=true then (if (qdj e.Text 32 64&&(qaZ e.BK&&(qaZ e.Value&&(qaZ e.BP&&(!decide (e.Kind<1)&&(!decide (14<e.Kind)&&(!decide (e.Auth<0) && !decide (3<e.Auth))))))))=true then (if e.Ai.l.length<2\/12<e.Ai.l.length then 5 else if qcQ e.Ai.l=0 then (if qiG (e.Ai.l.foldl qa1 [])=true then 0 else 15)else qcQ e.Ai.l)else 1)else 4
def qRt(T:Tab)(hP:HP T)(x:Ad)(hx:x.Au.length<=maxLen):T.val 770 [x.dv]=some (.d (I (qcp x)),false):=by
 rw[qab T (hP 770 qj0 rfl) rfl];have e:=qRz T hP x.Au hx;unfold qcp qiQ;simp[qj0,Fr.Aa,e];repeat' (refine qbx (λh=>?_) (λh=>?_)<;>(try simp at h)<;>(try simp[h,e]))
 all_goals first|omega|simp_all
def quk{R:Type}(r:Int->CK R)(done:Unit->CK R)(step:Nat->Unit->Ad->(Unit->CK R)->CK R)(hs:∀i b x c,step i b x c=if qcp x=0 then c ()else r (qcp x)):∀(i:Nat) (ls:CL Ad),rounds step done i () ls=if qcQ ls=0 then done ()else r (qcQ ls)
 |i,[]=>by simp[rounds,qcQ]
 |i,x::l=>by
  rw[rounds,hs,quk r done step hs (i+1) l,qcQ];by_cases h:qcp x=0
  ·simp[h]
  ·simp[h]
def qAa(T:Tab)(hP:HP T)(e:Ag)(hn:e.Ai.l.length<=maxLen)(ho:∀x∈e.Ai.l,x.ok){k:KC (PV×CO)}{r:Int->CG}{fr:Fr}{H:CW}(hr:∀fr H n,fr.get 2=.d (I n)->qao fr=[]->k .ret fr H=r n)
  (h0:gc [1,3] 0 ⟨fr,H⟩=⟨[(3,.d (I 0)),(1,.p 0 0 0)],[some (.box (K1 10) (.d e.dv))]⟩) :
  kC T.env 0 fr H (.h (.loop [1,3] qof,k))=if qcQ e.Ai.l=0 then k (.exit 0) [(72,.d (.b false)),(3,.d (I e.Ai.l.length)),(1,.p 0 0 0)] [some (.box (K1 10) (.d e.dv))]else r (qcQ e.Ai.l):=by
 have hm:=mxl;rw[qcr e.Ai.l (λi _=>⟨[(3,.d (I i)),(1,.p 0 0 0)],[some (.box (K1 10) (.d e.dv))]⟩) (λ_ _=>True) (λi _ x c=>if qcp x=0 then c ()else r (qcp x)) (λ_=>k (.exit 0) [(72,.d (.b false)),(3,.d (I e.Ai.l.length)),(1,.p 0 0 0)] [some (.box (K1 10) (.d e.dv))]) ?_ ?_ h0 trivial]
 ·exact quk r _ _ (λ_ _ _ _=>rfl) 0 _
 ·intro B _ _ _;simp[qof]
 ·intro B _ i _ hi _ c hc;have h1:(i:Int)<e.Ai.l.length:=by omega
  have h3:=wr1 (i:=i) (by omega);have ev:=qRt T hP e.Ai.l[i] (ho _ (zzs _)).2.2;by_cases hz:qcp e.Ai.l[i]=0
  ·rw[if_pos hz];rw[hz]at ev;simp[qof,h1,hi,h3,ev,bne];exact hc () _ _ trivial (by simp)
  ·rw[if_neg hz];have hz':(qcp e.Ai.l[i]==0)=false:=by simpa using hz
   simp[qof,h1,hi,h3,ev,hz,hz',bne];exact hr _ _ _ (by simp[Fr.get]) (by simp[qao,gh])
def qJn(T:Tab)(hP:HP T)(e:Ag)(hn:e.Ai.l.length<=maxLen)(ho:∀x∈e.Ai.l,x.ok){k:KC (PV×CO)}{r:Int->CG}{fr:Fr}{H:CW}(hr:∀fr H n,fr.get 2=.d (I n)->qao fr=[]->k .ret fr H=r n)
  (h0:gc [1,66,67,68] 0 ⟨fr,H⟩=⟨[(68,.d (I 0)),(67,.d (I e.Ai.l.length)),(66,.d (.l (K1 3) (e.Ai.l.map Ad.dv) e.Ai.t)),(1,.p 0 0 0)],[some (.box (K1 10) (.d e.dv))]⟩) :
  kC T.env 0 fr H (.h (.loop [1,66,67,68] qhL,k))=if qcQ e.Ai.l=0 then k (.exit 1) [(69,.d (.b false)),(68,.d (I e.Ai.l.length)),(67,.d (I e.Ai.l.length)),(66,.d (.l (K1 3) (e.Ai.l.map Ad.dv) e.Ai.t)),(1,.p 0 0 0)] [some (.box (K1 10) (.d e.dv))]else r (qcQ e.Ai.l):=by
 have hm:=mxl;rw[qcr e.Ai.l (λi _=>⟨[(68,.d (I i)),(67,.d (I e.Ai.l.length)),(66,.d (.l (K1 3) (e.Ai.l.map Ad.dv) e.Ai.t)),(1,.p 0 0 0)],[some (.box (K1 10) (.d e.dv))]⟩) (λ_ _=>True) (λi _ x c=>if qcp x=0 then c ()else r (qcp x)) (λ_=>k (.exit 1) [(69,.d (.b false)),(68,.d (I e.Ai.l.length)),(67,.d (I e.Ai.l.length)),(66,.d (.l (K1 3) (e.Ai.l.map Ad.dv) e.Ai.t)),(1,.p 0 0 0)] [some (.box (K1 10) (.d e.dv))]) ?_ ?_ h0 trivial]
 ·exact quk r _ _ (λ_ _ _ _=>rfl) 0 _
 ·intro B _ _ _;simp[qhL]
 ·intro B _ i _ hi _ c hc;have h1:(i:Int)<e.Ai.l.length:=by omega
  have h3:=wr1 (i:=i) (by omega);have ev:=qQE T hP e.Ai.l[i].Au (ho _ (zzs _)).2.2;unfold qcp qiQ;by_cases z1:e.Ai.l[i].AL<1
  ·simp[qhL,h1,hi,h3,ev,z1];exact hr _ _ _ (by simp[Fr.get]) (by simp[qao,gh])
  ·have q1:decide (e.Ai.l[i].AL<1)=false:=by simpa using z1
   by_cases z2:e.Ai.l[i].Amount=0
   ·simp[qhL,h1,hi,h3,ev,z1,z2];exact hr _ _ _ (by simp[Fr.get]) (by simp[qao,gh])
   ·have q2:(e.Ai.l[i].Amount==0)=false:=by simpa using z2
    by_cases z3:e.Ai.l[i].Amount < -1000000000000
    ·simp[qhL,h1,hi,h3,ev,z1,z2,q2,z3];exact hr _ _ _ (by simp[Fr.get]) (by simp[qao,gh])
    ·by_cases z4:1000000000000<e.Ai.l[i].Amount
     ·simp[qhL,h1,hi,h3,ev,z1,z2,q2,z3,z4];exact hr _ _ _ (by simp[Fr.get]) (by simp[qao,gh])
     ·cases hc2:qdU e.Ai.l[i].Au with
      |true=>rw[hc2]at ev;simp[qhL,h1,hi,h3,ev,z1,z2,q2,z3,z4,hc2];exact hc () _ _ trivial (by simp)
      |false=>rw[hc2]at ev;simp[qhL,h1,hi,h3,ev,z1,z2,q2,z3,z4,hc2];exact hr _ _ _ (by simp[Fr.get]) (by simp[qao,gh])
def qJo(T:Tab)(g:CL Ad)(hn:g.length<=100){k:KC (PV×CO)}{r:CG}{fr:Fr}{H:CW}(hr:∀fr H,fr.get 2=.d (I 15)->qao fr=[]->k .ret fr H=r)
  (h0:gc [97,98,99] 0 ⟨fr,H⟩=⟨[(99,.d (I 0)),(98,.d (I g.length)),(97,.d (.l (K1 2) (g.map mdv) false))],[]⟩) :
  kC T.env 0 fr H (.h (.loop [97,98,99] qn6,k))=if qiG g=true then k (.exit 3) [(100,.d (.b false)),(99,.d (I g.length)),(98,.d (I g.length)),(97,.d (.l (K1 2) (g.map mdv) false))] []else r:=by
 rw[qcr g (λi _=>⟨[(99,.d (I i)),(98,.d (I g.length)),(97,.d (.l (K1 2) (g.map mdv) false))],[]⟩) (λ_ _=>True) (λi _ x c=>if (λx:Ad=>x.Amount==0) x=true then c ()else r) (λ_=>k (.exit 3) [(100,.d (.b false)),(99,.d (I g.length)),(98,.d (I g.length)),(97,.d (.l (K1 2) (g.map mdv) false))] []) ?_ ?_ h0 trivial]
 ·rw[qhp (λx:Ad=>x.Amount==0) r]
  ·rfl
  ·exact λ_ _ _ _=>rfl
 ·intro B _ _ _;simp[qn6]
 ·intro B _ i _ hi _ c hc;have h1:(i:Int)<g.length:=by omega
  have h3:=wr1 (i:=i) (by omega);by_cases hz:g[i].Amount=0
  ·simp[qn6,h1,hi,h3,hz,qnh,qeB,zzj,bne];exact hc () _ _ trivial (by simp)
  ·have hz':(g[i].Amount==0)=false:=by simpa using hz
   simp[qn6,h1,hi,h3,hz,hz',qnh,qeB,zzj,bne];exact hr _ _ (by simp[Fr.get]) (by simp[qao,gh])
def qAb(T:Tab)(g:CL Ad)(hn:g.length<=100){k:KC (PV×CO)}{r:CG}{fr:Fr}{H:CW}(hr:∀fr H,fr.get 2=.d (I 15)->qao fr=[]->k .ret fr H=r)
  (h0:gc [5,6] 0 ⟨fr,H⟩=⟨[(6,.d (I 0)),(5,.d (.l (K1 2) (g.map mdv) false))],[]⟩) :
  kC T.env 0 fr H (.h (.loop [5,6] qog,k))=if qiG g=true then k (.exit 2) [(90,.d (.b false)),(6,.d (I g.length)),(5,.d (.l (K1 2) (g.map mdv) false))] []else r:=by
 rw[qcr g (λi _=>⟨[(6,.d (I i)),(5,.d (.l (K1 2) (g.map mdv) false))],[]⟩) (λ_ _=>True) (λi _ x c=>if (λx:Ad=>x.Amount==0) x=true then c ()else r) (λ_=>k (.exit 2) [(90,.d (.b false)),(6,.d (I g.length)),(5,.d (.l (K1 2) (g.map mdv) false))] []) ?_ ?_ h0 trivial]
 ·rw[qhp (λx:Ad=>x.Amount==0) r]
  ·rfl
  ·exact λ_ _ _ _=>rfl
 ·intro B _ _ _;simp[qog]
 ·intro B _ i _ hi _ c hc;have h1:(i:Int)<g.length:=by omega
  have h3:=wr1 (i:=i) (by omega);by_cases hz:g[i].Amount=0
  ·simp[qog,h1,hi,h3,hz,qnh,qeB,zzj,bne];exact hc () _ _ trivial (by simp)
  ·have hz':(g[i].Amount==0)=false:=by simpa using hz
   simp[qog,h1,hi,h3,hz,hz',qnh,qeB,zzj,bne];exact hr _ _ (by simp[Fr.get]) (by simp[qao,gh])
