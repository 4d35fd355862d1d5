/- Part 6 of the proof: CbSimC, CbTabs, CbSimIw, CbSimIn, CbSimCt, CbSimTx, CbTab2, CbGi, CbSimG, CbSimLd, CbDg, CbCv. -/
import Derived.Test.YtahfohlafjiajaaGreatDoorEB5
import Derived.Lib.LazyBuf
import Derived.Shelf.Spec.SlicesInsertGrow
import Derived.Shelf.SlGeneric
import Derived.Shelf.Strings.Count
import Derived.Shelf.Strconv.ParseIntPublic10
import Derived.Shelf.Strconv.Atoi
import Derived.Test.YtahfohlafjiajaaGreatDoorEB2
import Derived.ChangeArms
import Derived.OpenShut
import Derived.Deep.Slices
import Derived.WideShapes
import Derived.ProofKit
import Derived.LaidMore
section
open Go.RowKit
namespace Go.Sim
section
variable {P : Program} {N : Names} {C : Cx} {w : World} {S : qai} {β : Pl} {B : Nat} {H : Heap} {a : Act} {E : Env}
def qsL (P:Program) (N:Names) (f:FuncId) (k:K) (b:Nat):Prop :=
 ∃(fn:Func) (T e T':TypeId) (z:DV) (k0:K) (i0 i1 i2 i3:Nat) (o0 o1 o2 o3:Oper) (O4:Array Oper),P.funcs[f]? = some fn ∧
  fn.body=some (.seq (.region i0 #[o0] false) (.seq (.seq (.region i1 #[o1,o2] false) (.cond (.tmp 4) (.seq (.region i2 #[o3] false) .ret) .skip)) (.seq (.region i3 O4 false) .ret))) ∧
  P.underlying T=some (.slice e)∧fn.results.toList=[.tmp 2]∧fn.ntmps=8 ∧
  qaC P N #[o0] o0=⟨some 2,.mov (.c (.l k0 [] true)),none⟩∧o1.dst=some 3∧o1.op = .move (.tmp 0)∧o1.guard=none∧o2.dst=some 4∧o2.op = .binOp .eql T (.tmp 3) (.const (.slice none 0 0)) T'∧o2.guard=none ∧
  qaC P N #[o3] o3=⟨some 2,.mov (.c (.l k [] true)),none⟩ ∧
  O4.toList.map (qaC P N O4)=[⟨some 5,.bsl k z 0 [],none⟩,⟨some 6,.mov (.t 0),none⟩,⟨some 7,.app k b (.t 5) (.t 6),none⟩,⟨some 2,.mov (.t 7),none⟩]
def noE (G:Nat→Option (DV×K)):Env:={ G:=G,val:=fun _ _=>none,ref:=fun _ _ _=>none,yld:=noY,it:=fun _ _ _ _=>none,dok:=fun _=>false }
theorem qC9 (G:Nat→Option (DV×K)):OrOK P C N (noE G):=⟨(fun f ds r own h=>by cases h),(fun f args H r H' h=>by cases h),(fun f args H r H' hd h=>by cases h),(fun Y f args H r H' h=>by cases h),(fun Y f args H r h=>by cases h),(fun f ds r h=>by cases h),(fun f args H r h=>by cases h)⟩
theorem K.eq_refl (k:K):K.eq k k=true:=by cases k<;>simp[K.eq]
theorem qy8 {G:Nat→Option (DV×K)} (hN:NOK P N C G) {f:Nat} {k:K} {b:Nat} (hc:qsL P N (C.μ f) k b) {ds:List DV} {r:PV} {own:Bool} (h:qlv k b ds=some (r,own)):qhw P C N G f ds r own:=by
 unfold qlv at h;split at h;case h_2=>cases h
 rename_i k' es t;split at h;case isFalse=>cases h
 rename_i hck;simp only[zzb,zzc] at h;obtain⟨rfl,rfl⟩:=h;simp only[zzf,Bool.or_eq_true,zzq,List.isEmpty_iff] at hck;obtain⟨hk,hb⟩:=hck;intro w S us hS hG hl hr;obtain⟨fn,T,e,T',z,k0,i0,i1,i2,i3,o0,o1,o2,o3,O4,f1,f2,f3,f4,f5,f6,f7,f8,f9,f10,f11,f12,f13,f14⟩:=hc;have hus:us.length=1:=by simpa using hl.symm
 have h0:HOK C w.heap.size w S (fun _=>.pend) []:=⟨(fun o blk base k h=>by cases h),(fun o h=>by cases h),(fun o h=>by cases h),(fun o o' blk base k base' k' h=>by cases h),fun _ _=>rfl,(fun o blk x h=>by cases h),(fun o o' blk x x' h=>by cases h)⟩
 refine (qpq (ro:=none) (nf:=0)).1 (callsIn_of_wp (F:=FR none) f1 f2 trivial ?_);have hOO:OrOK P C N (noE G):=qC9 G
 have hNN:NOK P N C (noE G).G:=hN
 have hI:Inv P N C (noE G) w.heap.size 0 8 ⟨[(0,.d (.l k' es t))],[]⟩ { tmps:=us.toArray++Array.replicate (fn.ntmps-us.toArray.size) undef,defers:=[] } w S (fun _=>.pend):=by
  refine⟨hS,hG,zzt _,h0,?_,by simp[hus,f5],⟨[],List.nodup_nil,fun t ht=>absurd ht (List.not_mem_nil),fun t ht hne=>absurd ?_ hne,rfl,fun j hj=>absurd hj (zzm _)⟩,⟨0,zzt _,qoh⟩,zzt _⟩
  rotate_left
  ·show (if 0=t then _ else PV.u) = .u
   rw[if_neg (by unfold gh at ht;omega)]
  intro t';simp only[Fr.get];split
  ·rename_i ht;subst ht
   have:=hr 0 (by simp) (by omega)
   simp only[List.getElem_cons_zero] at this;have e1:(us.toArray++Array.replicate (fn.ntmps-us.toArray.size) undef).getD 0 undef=us[0]:=by
    rw[Array.getD_eq_getD_getElem?,Array.getElem?_append_left (by simp[hus])]
    simp[hus]
   rw[e1];exact .d _ _ this
  ·exact .u _
 have fin : ∀(s:St) (v:PV) (a':Act) (w':World) (S':qai) (β':Pl),Inv P N C (noE G) w.heap.size 0 8 s a' w' S' β'→Ext w.heap.size w S w' S'→s.fr.get 2=v→qar s.fr=[]→purT s.H v=some (.d (.l k es false),true) →
   bodyPost P fn (fun e w'=>∃v S',e = .returned v∧Ext w.heap.size w S w' S'∧Swf w' S'∧(true=false→RelV C w' S' (fun _=>.pend) (.d (.l k es false)) v)∧(true=true→∃k2 es2,PV.d (.l k es false) = .d (.l k2 es2 false)∧qmJ w' S' k2 es2 v w.heap.size)) .ret a' w':=by
  intro s v a' w' S' β' hI' g1 hv hgs hp;have hd:qhK P fn.results.toList=some [.t 2]:=by rw[f4];rfl
  obtain⟨us',e1,e2,e3⟩:=qnT hI'.hok hI'.fok hd (vs:=[v]) (by simp[Sim.results,hv])
  have hlu:us'.length=1:=by simpa using e2.symm
  have e4:(fn.results.mapM (qjp a'.tmps)).run P w' = .ok us'.toArray w':=by
   rw[Array.mapM_eq_mapM_toList,Sem.run_map,e1];rfl
  obtain⟨S2,q1,q2,q3,q4⟩:=qwA hp hI'.swf hI'.hok g1 (e3 0 (by simp) (by omega))
  refine⟨?_,us'[0],?_,us'[0],S2,rfl,q1,q2,q3,q4⟩
  ·exact qtF hI'.defers hgs
  unfold Go.results;rw[Sem.run_bind];show Result.andThen ((fn.results.mapM (qjp a'.tmps)).run P w') _=_
  rw[e4];simp[hlu]
 revert fin
 generalize bodyPost P fn _=QQ;intro fin;refine wpIn_seq ?_;refine qj0 (n:=0) hOO hNN (by decide:8≤gh) (.reg [⟨some 2,.mov (.c (.l k0 [] true)),none⟩] []) (.region i0 #[o0] false) (by simp[qaH,qaJ,f6]) 0 none 0 rfl _ ⟨[(2,.d (.l k0 [] true)),(0,.d (.l k' es t))],[]⟩ .norm _ w S _ _ (by simp[qau,qeY,qaS,qaw,IOp.adds,qaa,rd,Fr.set,Fr.drop]) hI ?_
 intro a1 w1 S1 β1 hI1 g1 _;refine wpIn_seq (wpIn_seq (wpIn_region ?_));have hw1 : ∀a:Act,Region.wanted o1 (yielded #[o1,o2] a.tmps)=true:=fun a=>by simp[Region.wanted,f9]
 have hw2 : ∀a:Act,Region.wanted o2 (yielded #[o1,o2] a.tmps)=true:=fun a=>by simp[Region.wanted,f12]
 show wpOpsIn (FR none) 0 P #[o1,o2] _ [0,1] a1 w1
 simp only[wpOpsIn,List.getElem?_toArray,List.getElem?_cons_zero,List.getElem?_cons_succ,hw1,hw2,if_true];refine qa0 (w':=w1) (u:=a1.eval (.tmp 0)) (fun c h=>by rw[f8] at h;cases h) (by simp[execOp,f8]) ?_
 rw[f7];have hv0:=hI1.fok 0
 simp only[Fr.get,if_true] at hv0;have hF2:FOK C w1 S1 β1 _ (a1.put (some 3) (a1.eval (.tmp 0))):=hI1.fok.put (d:=3) (by rw[hI1.size];omega) hv0
 have hv3:=hF2 3
 rw[qf2,if_pos rfl] at hv3;obtain⟨av,cap,hav,hcap,hnil⟩ : ∃av cap,(a1.put (some 3) (a1.eval (.tmp 0))).eval (.tmp 3) = .slice av es.length cap∧(t=true→cap=es.length)∧(0<es.length→∃p,av=some p):=by
  change RelV C w1 S1 β1 _ ((a1.put (some 3) (a1.eval (.tmp 0))).eval (.tmp 3)) at hv3
  generalize (a1.put (some 3) (a1.eval (.tmp 0))).eval (.tmp 3)=v3 at hv3;cases hv3 with
  |d _ _ hv3 =>
  cases hv3 with
  |l _ _ _ av cap blk off c c1 c2 c3 c4 c5=>exact⟨av,cap,rfl,c2,fun h=>⟨_,c3 h⟩⟩
 have hexec:(execOp (a1.put (some 3) (a1.eval (.tmp 0))).eval o2).run P w1 = .ok (.value (.bool av.isNone)) w1:=by
  simp only[execOp,f11,hav];refine qbk ?_;have e1:(a1.put (some 3) (a1.eval (.tmp 0))).eval (.const (.slice none 0 0)) = .slice none 0 0:=rfl
  rw[e1];have e2:(eqGuard .eql T (.tmp 3) (.const (.slice none 0 0)) (.slice av es.length cap) (.slice none 0 0)).run P w1 = .ok () w1:=by simp[eqGuard]
  simp only[Sem.run_bind,e2,Result.andThen_ok,run_eql_slice_nil w1 T e av es.length cap f3]
 refine qa0 (fun c h=>by rw[f11] at h;cases h) hexec ?_
 rw[f10];have hF3:=hF2.put (d:=4) (v:=.d (.b av.isNone)) (u:=.bool av.isNone) (by simp[Act.put,hI1.size]) (.d _ _ (.b _))
 generalize ha2:((a1.put (some 3) (a1.eval (.tmp 0))).put (some 4) (.bool av.isNone))=a2 at *
 have hI2:Inv P N C (noE G) w.heap.size 0 8 ⟨[(4,.d (.b av.isNone)),(3,.d (.l k' es t)),(2,.d (.l k0 [] true)),(0,.d (.l k' es t))],[]⟩ a2 w1 S1 β1:=by
  refine⟨hI1.swf,hI1.gok,hI1.hB,hI1.hok,hF3,?_,?_,hI1.yok,zzt _⟩
  ·rw[←ha2];simp[Act.put,hI1.size]
  ·rw[←ha2];refine hI1.defers.frame fun t ht => ?_
   unfold gh at ht;simp only[Fr.get];repeat rw[if_neg (by omega)]
 have hcond:a2.eval (.tmp 4) = .bool av.isNone:=by
  have:=hI2.fok 4
  simp only[Fr.get] at this;exact qif this
 show (Code.cond _ _ _).wpIn (FR none) 0 P _ a2 w1
 cases hav2:av with
 |none =>
  rw[hav2] at hcond;have hes:es=[]:=by
   cases es with
   |nil=>rfl
   |cons x xs=>obtain⟨p,hp⟩:=hnil (by simp);rw[hav2] at hp;cases hp
  subst hes;refine wpIn_cond_true hcond ?_;refine qj0 (n:=0) hOO hNN (by decide:8≤gh) (.seq (.reg [⟨some 2,.mov (.c (.l k [] true)),none⟩] []) .ret) (.seq (.region i2 #[o3] false) .ret) (by simp[qaH,qaJ,f13]) 0 none 0 rfl _ ⟨[(4,.d (.b av.isNone)),(3,.d (.l k' [] t)),(2,.d (.l k [] true)),(0,.d (.l k' [] t))],[]⟩ .ret _ w1 S1 _ _ (by simp[qau,qeY,qaS,qaw,IOp.adds,qaa,rd,Fr.set,Fr.drop]) hI2 ?_
  intro a3 w3 S3 β3 hI3 g3 _;exact fin _ _ a3 w3 S3 β3 hI3 (g1.trans g3) rfl rfl (by simp[purT,Fr.get])
 |some p =>
  rw[hav2] at hcond;refine wpIn_cond_false hcond (wpIn_skip ?_);have hke:(K.eq k k'||es.isEmpty)=true:=by
   rcases hk with hk|hk
   ·rw[hk];simp
   ·simp[hk]
  have hb':(0+es.length)*b≤2^47:=by rw[Nat.zero_add];exact hb
  show (Code.seq _ _).wpIn (FR none) 0 P _ a2 w1
  cases hes:es with
  |nil =>
   subst hes;refine qj0 (n:=0) hOO hNN (by decide:8≤gh) (.seq (.reg [⟨some 5,.bsl k z 0 [],none⟩,⟨some 6,.mov (.t 0),none⟩,⟨some 7,.app k b (.t 5) (.t 6),none⟩,⟨some 2,.mov (.t 7),none⟩] []) .ret) (.seq (.region i3 O4 false) .ret) (by simp[qaH,qaJ,f14]) 0 none 0 rfl _ ⟨[(7,.r 0 k 0 0 true),(6,.d (.l k' [] t)),(5,.r 0 k 0 0 true),(4,.d (.b av.isNone)),(3,.d (.l k' [] t)),(2,.r 0 k 0 0 true),(0,.d (.l k' [] t))],[some (.sl k 0 []),none]⟩ .ret _ w1 S1 _ _
    (by simp[qau,qeY,qaS,qaw,IOp.adds,qaa,rd,Fr.set,Fr.get,Fr.drop,qci,frz,Heap.put,Heap.obj,qfO,qfy,K.eq_refl]) hI2 ?_
   intro a3 w3 S3 β3 hI3 g3 _;exact fin _ _ a3 w3 S3 β3 hI3 (g1.trans g3) rfl rfl (by simp[purT,Heap.obj,Fr.get])
  |cons x xs =>
   rw[hes] at hke hb';have hkk:K.eq k k'=true:=by simpa using hke
   subst hes;refine qj0 (n:=0) hOO hNN (by decide:8≤gh) (.seq (.reg [⟨some 5,.bsl k z 0 [],none⟩,⟨some 6,.mov (.t 0),none⟩,⟨some 7,.app k b (.t 5) (.t 6),none⟩,⟨some 2,.mov (.t 7),none⟩] []) .ret) (.seq (.region i3 O4 false) .ret) (by simp[qaH,qaJ,f14]) 0 none 0 rfl _ ⟨[(7,.r 1 k 0 (0+(x::xs).length) false),(6,.d (.l k' (x::xs) t)),(5,.r 0 k 0 0 true),(4,.d (.b av.isNone)),(3,.d (.l k' (x::xs) t)),(2,.r 1 k 0 (0+(x::xs).length) false),(0,.d (.l k' (x::xs) t))],[some (.sl k 0 []),some (.sl k 0 (x::xs))]⟩ .ret _ w1 S1 _ _
    (by
     have hb2:(xs.length+1)*b≤140737488355328:=by simpa using hb'
     simp[qau,qeY,qaS,qaw,IOp.adds,qaa,rd,Fr.set,Fr.get,Fr.drop,qci,frz,Heap.put,Heap.obj,qfO,qfy,K.eq_refl,hkk,hb2]) hI2 ?_
   intro a3 w3 S3 β3 hI3 g3 _;exact fin _ _ a3 w3 S3 β3 hI3 (g1.trans g3) rfl rfl (by simp[purT,Heap.obj,Fr.get])
end
end Go.Sim
end
section
open Go.RowKit
namespace Go.Sim
def qlU (l:List (Nat×Nat×Nat)) (f:Nat):Option (Nat×Nat):=match l with
 | []=>none
 | (g,x)::r=>if g=f then some x else qlU r f
def qnG (l:List (Nat×Nat×Nat)) (n:Nat):Nat:=match l with
 | []=>0
 | (g,k,_)::r=>if k=n then g else qnG r n
theorem qvS {f:Nat} {x:Nat×Nat} : ∀{l:List (Nat×Nat×Nat)},qlU l f=some x→(f,x)∈l
 | [],h=>by cases h
 | (g,y)::r,h=>by
  simp only[qlU] at h;split at h
  ·rename_i hg;subst hg;cases h;exact zzr ..
  ·exact zzi _ (qvS h)
theorem qDb {P:Program} {l:List (Nat×Nat×Nat)} {G:Nat→Option (DV×K)} {g:Nat→Nat} (hm:P.follows .mixedOrders=true) (h:(l.all fun x=>qnG l x.2.1==x.1)=true):NOK P ⟨qlU l,g⟩ ⟨qnG l⟩ G:=by
 refine⟨?_,hm⟩;intro f x hx
 have:=List.all_eq_true.1 h _ (qvS hx)
 simpa using this
def asciiL:List Int:=[0,0,0,0,0,0,0,0,0,1,1,1,1,1,0,0,0,0,0,0,0,0,0,0,0,0,0,0,0,0,0,0,1,0,0,0,0,0,0,0,0,0,0,0,0,0,0,0,0,0,0,0,0,0,0,0,0,0,0,0,0,0,0,0,0,0,0,0,0,0,0,0,0,0,0,0,0,0,0,0,0,0,0,0,0,0,0,0,0,0,0,0,0,0,0,0,0,0,0,0,0,0,0,0,0,0,0,0,0,0,0,0,0,0,0,0,0,0,0,0,0,0,0,0,0,0,0,0,0,0,0,0,0,0,0,0,0,0,0,0,0,0,0,0,0,0,0,0,0,0,0,0,0,0,0,0,0,0,0,0,0,0,0,0,0,0,0,0,0,0,0,0,0,0,0,0,0,0,0,0,0,0,0,0,0,0,0,0,0,0,0,0,0,0,0,0,0,0,0,0,0,0,0,0,0,0,0,0,0,0,0,0,0,0,0,0,0,0,0,0,0,0,0,0,0,0,0,0,0,0,0,0,0,0,0,0,0,0,0,0,0,0,0,0,0,0,0,0,0,0,0,0,0,0,0,0]
end Go.Sim
end
section
namespace Go.Proofs
open Go.Shelf Go.RowKit Go.Lib
variable {P : Program} {ρ : Ren}
end Go.Proofs
end
section
open Go.RowKit
namespace Go.Sim
section
variable {P : Program} {N : Names} {C : Cx} {w : World} {S : qai} {β : Pl} {B : Nat} {H : Heap} {a : Act} {E : Env} {ρ : Go.Shelf.Ren}
end
end Go.Sim
end
section
open Go.RowKit Go.Sort
namespace Go.Sim
section
variable {P : Program} {N : Names} {C : Cx} {ρ : Go.Shelf.Ren}
def qi0 (l:List UInt8) (c:UInt8):Nat:=match l with
 | []=>0
 |x::r=>if x==c then qi0 r c+1 else qi0 r c
def qmW (ds:List DV):Option (PV×Bool):=match ds with
 | [.s l,.s [c]]=>some (.d (.i .i64 (qi0 l c)),false)
 | _=>none
theorem qzd (l:List UInt8) (c:UInt8):qi0 l c=Lib.countByte l c:=by
 induction l with
 |nil=>rfl
 |cons x r ih =>
  simp only[qi0,ih,Lib.countByte,List.count_cons];split<;>rfl
theorem qze {G:Nat→Option (DV×K)} {f:Nat} (L:Go.Proofs.Lays.n138 P ρ) (hf:C.μ f=ρ.f 138) {ds:List DV} {r:PV} {own:Bool} (h:qmW ds=some (r,own)):qhw P C N G f ds r own:=by
 unfold qmW at h;split at h;case h_2=>cases h
 rename_i l c;simp only[zzb,zzc] at h;obtain⟨rfl,rfl⟩:=h;intro w S us hS hG hl hr;match us,hl with
 | [u,v],_ =>
 have k0:=hr 0 (by simp) (by simp)
 have k1:=hr 1 (by simp) (by simp)
 simp only[List.getElem_cons_zero,List.getElem_cons_succ] at k0 k1;obtain⟨s,rfl,hs⟩ : ∃s:ByteArray,u = .string s∧s.data.toList=l:=by
  cases k0 with
  |s _ x hx=>exact⟨x,rfl,hx⟩
 obtain⟨t,rfl,ht⟩ : ∃s:ByteArray,v = .string s∧s.data.toList=[c]:=by
  cases k1 with
  |s _ x hx=>exact⟨x,rfl,hx⟩
 have ht':t=⟨#[c]⟩:=by
  obtain⟨⟨t⟩⟩:=t;simp only at ht;subst ht;rfl
 subst ht' hs;rw[hf];refine (Go.Proofs.Any.strings_Count_one L s c w).mono ?_;rintro e w' ⟨rfl,rfl⟩;refine⟨_,S,rfl,Ext.refl _ _ _,hS,fun _ => ?_,fun h=>by cases h⟩
 rw[qzd];exact .d _ _ (.i _ _)
end
end Go.Sim
end
section
open Go.RowKit Go.Sort
namespace Go.Sim
section
variable {P : Program} {N : Names} {C : Cx} {ρ : Go.Shelf.Ren} {w : World} {S : qai}
theorem qxf {G:Nat→Option (DV×K)} (hG:GOK N G w S) {g n:Nat} (h:G (N.g g)=some (.tok n,none)) : ∃t v,w.cell? ⟨g,0,none⟩=some (.iface t v):=by
 obtain⟨-,f,h1,h2⟩:=hG g _ _ h;have h3:=(h1 0 (by simp[K.size])).1
 change RelD w S _ (f 0) at h2
 generalize f 0=u at h2 h3;cases h2 with
 |tok _ t v=>exact⟨t,v,h3⟩
def qlX (ds:List DV):Option (PV×Bool):=match ds with
 | [.s l,.i .i64 b,.i .i64 m]=>if b=10∧m=64∧l.length≤281474976710656 then match Lib.parseIntB 64 l with
   | .ok v=>some (.t [.d (.i .i64 v),.d .ni],false)
   | .range=>some (.t [.d (.i .i64 (Lib.intSat 64 l)),.d (.tok 0)],false)
   | _ => some (.t [.d (.i .i64 0),.d (.tok 0)],false)
  else none
 | _=>none
theorem qn6 {w':World} {x:Int} {d:DV} {u:Value} (h:RelD w' S d u):RelV C w' S (fun _=>.pend) (.t [.d (.i .i64 x),.d d]) (.tuple #[.int .i64 x,u]):=by
 refine .t _ [.int .i64 x,u] rfl fun j hj hj' => ?_
 match j,hj with
 | 0,_=>exact .d _ _ (.i _ _)
 | 1,_=>exact .d _ _ h
theorem qGQ {G:Nat→Option (DV×K)} {f:Nat} (L:Go.Proofs.LaysC.n174 P ρ) (hf:C.μ f=ρ.f 174) (h15:G (N.g (ρ.g 15))=some (.tok 0,none)) (h16:G (N.g (ρ.g 16))=some (.tok 1,none)) {ds:List DV} {r:PV} {own:Bool} (h:qlX ds=some (r,own)):qhw P C N G f ds r own:=by
 unfold qlX at h;split at h;case h_2=>cases h
 rename_i l b m;split at h;case isFalse=>cases h
 rename_i hc;obtain⟨rfl,rfl,hlen⟩:=hc;intro w S us hS hG hl hr;match us,hl with
 | [u,v,x],_ =>
 have k0:=hr 0 (by simp) (by simp)
 have k1:=hr 1 (by simp) (by simp)
 have k2:=hr 2 (by simp) (by simp)
 simp only[List.getElem_cons_zero,List.getElem_cons_succ] at k0 k1 k2;obtain⟨s,rfl,hs⟩ : ∃s:ByteArray,u = .string s∧s.data.toList=l:=by
  cases k0 with
  |s _ x hx=>exact⟨x,rfl,hx⟩
 have hv:v = .int .i64 10:=by cases k1;rfl
 have hx:x = .int .i64 64:=by cases k2;rfl
 subst hv hx hs;have hsz:s.size≤281474976710656:=by simpa using hlen
 rw[hf];cases hn:Lib.parseIntB 64 s.data.toList<;>rw[hn]at h
 ·rename_i n;simp only[zzb,zzc] at h;obtain⟨rfl,rfl⟩:=h;refine (Go.Proofs.Any.strconv_ParseInt_10_at64_ok L s (by omega) n hn w).mono ?_
  rintro e w' ⟨rfl,hw⟩;have hb:Below w.heap.size w w':=by
   rcases hw with rfl|⟨t,rfl⟩
   ·exact Below.refl _ _
   ·exact Lib.bytesWorld_below _ _ _
  have e1:=qlp hS hb
  exact⟨_,S,rfl,e1,hS.ext e1,fun _=>qn6 .ni,fun h=>by cases h⟩
 ·simp only[zzb,zzc] at h;obtain⟨rfl,rfl⟩:=h;obtain⟨t,v,hv⟩:=qxf hG h15;refine (Go.Proofs.Any.strconv_ParseInt_10_at64_syntax L s hsz hn _ w hv (.inr ⟨t,v,rfl⟩)).mono ?_;rintro e w' ⟨n,rfl,-,-,hb⟩;have e1:=qlp hS hb
  exact⟨_,S,rfl,e1,hS.ext e1,fun _=>qn6 (.tok _ _ _),fun h=>by cases h⟩
 ·simp only[zzb,zzc] at h;obtain⟨rfl,rfl⟩:=h;obtain⟨t,v,hv⟩:=qxf hG h16;refine (Go.Proofs.Any.strconv_ParseInt_10_at64_range L s hsz hn _ w hv (.inr ⟨t,v,rfl⟩)).mono ?_;rintro e w' ⟨n,rfl,-,-,hb⟩;have e1:=qlp hS hb
  exact⟨_,S,rfl,e1,hS.ext e1,fun _=>qn6 (.tok _ _ _),fun h=>by cases h⟩
def qln (ds:List DV):Option (PV×Bool):=match ds with
 | [.s l]=>if l.length≤18 then match Lib.atoi l with
   |some v=>some (.t [.d (.i .i64 v),.d .ni],false)
   |none=>none
  else none
 | _=>none
theorem qyx {G:Nat→Option (DV×K)} {f:Nat} (L:Go.Proofs.Lays.n172 P ρ) (hf:C.μ f=ρ.f 172) {ds:List DV} {r:PV} {own:Bool} (h:qln ds=some (r,own)):qhw P C N G f ds r own:=by
 unfold qln at h;split at h;case h_2=>cases h
 rename_i l;split at h;case isFalse=>cases h
 rename_i hc;split at h;case h_2=>cases h
 rename_i n hn;simp only[zzb,zzc] at h;obtain⟨rfl,rfl⟩:=h;intro w S us hS hG hl hr;match us,hl with
 | [u],_ =>
 have k0:=hr 0 (by simp) (by simp)
 simp only[List.getElem_cons_zero] at k0;obtain⟨s,rfl,hs⟩ : ∃s:ByteArray,u = .string s∧s.data.toList=l:=by
  cases k0 with
  |s _ x hx=>exact⟨x,rfl,hx⟩
 subst hs;rw[hf];refine (Go.Proofs.Any.strconv_Atoi L s n (by simpa using hc) hn w).mono ?_
 rintro e w' ⟨rfl,t,rfl⟩;have e1:=qlp hS (Lib.bytesWorld_below w (ρ.t 5) t)
 exact⟨_,S,rfl,e1,hS.ext e1,fun _=>qn6 .ni,fun h=>by cases h⟩
end
end Go.Sim
end
section
open Go.RowKit
namespace Go.Sim
inductive PT where
 |nil
 |bin (k:Nat) (F:PF) (l r:PT)
noncomputable def PT.get (t:PT):Nat→Option PF := @PT.rec (fun _=>Nat→Option PF) (fun _=>none) (fun k F _ _ gl gr n => @Bool.rec (fun _=>Option PF) (@Bool.rec (fun _=>Option PF) (gr n) (gl n) (Nat.ble (Nat.succ n) k)) (some F) (Nat.beq n k)) t
def PT.All (p:Nat→PF→Prop):PT→Prop
 | .nil=>True
 | .bin k F l r=>p k F∧l.All p∧r.All p
theorem PT.get_all {p:Nat→PF→Prop} : ∀{t:PT} {n:Nat} {F:PF},t.get n=some F→t.All p→p n F
 | .nil,n,F,h,_=>by cases h
 | .bin k G l r,n,F,h,ha=>by
  change @Bool.rec (fun _=>Option PF) (@Bool.rec (fun _=>Option PF) (r.get n) (l.get n) (Nat.ble (Nat.succ n) k)) (some G) (Nat.beq n k)=some F at h
  cases hb:Nat.beq n k with
  |true =>
   rw[hb] at h;have:n=k:=Nat.eq_of_beq_eq_true hb
   subst this;cases h;exact ha.1
  |false =>
   rw[hb] at h;change @Bool.rec (fun _=>Option PF) (r.get n) (l.get n) (Nat.ble (Nat.succ n) k)=some F at h
   cases hc:Nat.ble (Nat.succ n) k with
   |true=>rw[hc] at h;exact PT.get_all (t:=l) h ha.2.1
   |false=>rw[hc] at h;exact PT.get_all (t:=r) h ha.2.2
inductive XK where
 |clone (k:K) (b:Nat)
 |cnt
 |par
 |ato
 |join
def XK.run:XK→List DV→Option (PV×Bool)
 | .clone k b,ds=>qlv k b ds
 | .cnt,ds=>qmW ds
 | .par,ds=>qlX ds
 | .ato,ds=>qln ds
 | .join,ds=>qjc ds
inductive RK where
def RK.run (x:RK):List PV→Heap→Option (PV×Heap):=nomatch x
noncomputable def qcg {α β:Type} (f:α→β) (z:β) (l:List (Nat×α)) (n:Nat):β := @List.rec (Nat×α) (fun _=>β) z (fun p _ ih => @Prod.rec Nat α (fun _=>β) (fun m x => @Bool.rec (fun _=>β) ih (f x) (Nat.beq n m)) p) l
theorem qiq {α β:Type} {f:α→β} {z:β} : ∀{l:List (Nat×α)} {n:Nat},qcg f z l n=z∨∃x,(n,x)∈l∧qcg f z l n=f x
 | [],n=>.inl rfl
 | (m,x)::r,n=>by
  change (@Bool.rec (fun _=>β) (qcg f z r n) (f x) (Nat.beq n m))=z∨∃y,(n,y)∈(m,x)::r∧(@Bool.rec (fun _=>β) (qcg f z r n) (f x) (Nat.beq n m))=f y
  cases hb:Nat.beq n m with
  |true =>
   have:n=m:=Nat.eq_of_beq_eq_true hb
   subst this;exact .inr ⟨x,zzr ..,rfl⟩
  |false =>
   rcases qiq (f:=f) (z:=z) (l:=r) (n:=n) with h|⟨y,h1,h2⟩
   ·exact .inl h
   ·exact .inr ⟨y,zzi _ h1,h2⟩
noncomputable def qlR (t:PT) (xs:List (Nat×XK)) (rs:List (Nat×RK)) (gs:List (Nat×DV×K)):Tab where
 F:=t.get
 X:=qcg XK.run (fun _=>none) xs
 R:=qcg RK.run (fun _ _=>none) rs
 G:=qcg (fun x=>some x) none gs
section
variable {P : Program} {N : Names} {C : Cx}
def XOK (P:Program) (N:Names) (C:Cx) (G:Nat→Option (DV×K)) (f:Nat):XK→Prop
 | .clone k b=>qsL P N (C.μ f) k b∧∃fn,P.funcs[C.μ f]? = some fn∧fn.body.isNone=false∧fn.name ≠ "runtime.NumGoroutine"
 | .cnt=>∃ρ,Go.Proofs.Lays.n138 P ρ∧C.μ f=ρ.f 138
 | .par=>∃ρ,Go.Proofs.LaysC.n174 P ρ∧C.μ f=ρ.f 174∧G (N.g (ρ.g 15))=some (.tok 0,none)∧G (N.g (ρ.g 16))=some (.tok 1,none)
 | .ato=>∃ρ,Go.Proofs.Lays.n172 P ρ∧C.μ f=ρ.f 172
 | .join=>∃ρ,Go.Proofs.Lays.n156 P ρ∧Go.Proofs.Builder.Extra P ρ∧C.μ f=ρ.f 156
def ROK (_:Program) (_:Names) (_:Cx) (_:Nat→Option (DV×K)) (_:Nat) (x:RK):Prop:=nomatch x
theorem qKu {G:Nat→Option (DV×K)} (hN:NOK P N C G) {f:Nat} {x:XK} (h:XOK P N C G f x) {ds:List DV} {r:PV} {own:Bool} (hr:x.run ds=some (r,own)):qhw P C N G f ds r own:=by
 cases x with
 |clone k b=>exact qy8 hN h.1 hr
 |cnt=>obtain⟨ρ,h1,h2⟩:=h;exact qze h1 h2 hr
 |par=>obtain⟨ρ,h1,h2,h3,h4⟩:=h;exact qGQ h1 h2 h3 h4 hr
 |ato=>obtain⟨ρ,h1,h2⟩:=h;exact qyx h1 h2 hr
 |join=>obtain⟨ρ,h1,h2,h3⟩:=h;exact qAO h1 h2 h3 hr
theorem qKv {G:Nat→Option (DV×K)} {f:Nat} {x:XK} (h:XOK P N C G f x) : ∃fn,P.funcs[C.μ f]? = some fn∧fn.body.isNone=false∧fn.name ≠ "runtime.NumGoroutine" := by
 cases x with
 |clone k b=>exact h.2
 |cnt=>obtain⟨ρ,h1,h2⟩:=h;exact⟨_,by rw[h2];exact h1.f138,rfl,of_decide_eq_true rfl⟩
 |par=>obtain⟨ρ,h1,h2,-⟩:=h;exact⟨_,by rw[h2];exact h1.f174,rfl,of_decide_eq_true rfl⟩
 |ato=>obtain⟨ρ,h1,h2⟩:=h;exact⟨_,by rw[h2];exact h1.f172,rfl,of_decide_eq_true rfl⟩
 |join=>obtain⟨ρ,h1,-,h2⟩:=h;exact⟨_,by rw[h2];exact h1.f156,rfl,of_decide_eq_true rfl⟩
theorem qHn {G:Nat→Option (DV×K)} {f:Nat} {x:RK} (_h:ROK P N C G f x) {args:List PV} {H H':Heap} {r:PV} (_hr:x.run args H=some (r,H')):qoj P C N G f args H r H':=by
 cases x
theorem qHo {G:Nat→Option (DV×K)} {f:Nat} {x:RK} (_h:ROK P N C G f x) : ∃fn,P.funcs[C.μ f]? = some fn∧fn.body.isNone=false∧fn.name ≠ "runtime.NumGoroutine" := by
 cases x
theorem qHQ {t:PT} {xs:List (Nat×XK)} {rs:List (Nat×RK)} {gs:List (Nat×DV×K)} (hN:NOK P N C (qlR t xs rs gs).G) (hF:t.All fun n F=>qh5 P N (C.μ n) F) (hX : ∀x∈xs,XOK P N C (qlR t xs rs gs).G x.1 x.2) (hR : ∀x∈rs,ROK P N C (qlR t xs rs gs).G x.1 x.2):TabOK P N C (qlR t xs rs gs):=by
 refine⟨hN,fun f F h=>PT.get_all (p:=fun n F=>qh5 P N (C.μ n) F) (t:=t) (n:=f) h hF,?_,?_,?_,?_⟩
 ·intro f ds r own _ h;change qcg XK.run (fun _=>none) xs f ds=_ at h
  rcases qiq (f:=XK.run) (z:=fun _=>none) (l:=xs) (n:=f) with h1|⟨x,h1,h2⟩
  ·rw[h1] at h;cases h
  ·rw[h2] at h;exact qKu hN (hX _ h1) h
 ·intro f args H r H' _ h;change qcg RK.run (fun _ _=>none) rs f args H=_ at h
  rcases qiq (f:=RK.run) (z:=fun _ _=>none) (l:=rs) (n:=f) with h1|⟨x,h1,h2⟩
  ·rw[h1] at h;cases h
  ·rw[h2] at h;exact qHn (hR _ h1) h
 ·intro f args H r _ h;change qcg RK.run (fun _ _=>none) rs f args H=_ at h
  rcases qiq (f:=RK.run) (z:=fun _ _=>none) (l:=rs) (n:=f) with h1|⟨x,h1,h2⟩
  ·rw[h1] at h;cases h
  ·exact qHo (hR _ h1)
 ·intro f ds r _ h;change qcg XK.run (fun _=>none) xs f ds=_ at h
  rcases qiq (f:=XK.run) (z:=fun _=>none) (l:=xs) (n:=f) with h1|⟨x,h1,h2⟩
  ·rw[h1] at h;cases h
  ·exact qKv (hX _ h1)
end
end Go.Sim
end
section
namespace Go.Sim
def qmI (q:K):PC :=
 sq (.reg [
 O 9 (.bin .lss (.t 8) (.t 7))] []) (
 sq (.cond (.t 9) (.skip)
 (.exit 0)) (
 sq (.block 1 (
 sq (.reg [
 mM 10 8,
 mM 5 10] [10]) (
 sq (.reg [
 mM 11 1,
 mM 12 0,
 mM 13 5,
 O 14 (.iaddr q (.t 12) (.t 13)),
 O 15 (.load q (.t 14)),
 O 16 (.callv (.t 11) [.t 15])] [15,14,13,12,11]) (
 .cond (.t 16) (sq (.reg [
 mM 17 5,
 mM 4 17] [5,17]) (
 .ret))
 (.skip))))) (
 .reg [
 O 18 (.bin .add (.t 8) (.c (I 1))),
 mM 8 18] [18])))
def qjN (q:K):PF:=⟨2,[.t 4],
 sq (.reg [
 mI 4 0] [4]) (
 sq (sq (.reg [
 mM 6 0,
 O 7 (.len false (.t 6)),
 mI 8 0] [6]) (
 .block 0 (
 .loop [0,1,7,8] (qmI q)))) (
 sq (.reg [
 O 4 (.mov (.c (I (-1))))] []) (
 .ret)))⟩
end Go.Sim
end
section
open Go.RowKit Go.WideShapes Go.Deep
namespace Go.Sim
inductive Ty where
 |b
 |i (k:IntKind)
 |s
 |e
 |l (k:K) (b:Nat) (ts:List Ty)
def qb4:Nat:=140737488355328
mutual
inductive XL:DV→Prop
 |mk (es:List DV):es.length≤maxLen→(∀e∈es,XE e)→es.length*56≤qb4→XL (.l (some 4) es false)
inductive XE:DV→Prop
 |mk (o n:Int) (s:List UInt8) (a:DV):(Lit.int .i64 o).wf=true→(Lit.int .i64 n).wf=true→s.length≤maxLen→XL a→XE (.a [.i .i64 o,.i .i64 n,.s s,a])
end
mutual
def Has:Ty→DV→Prop
 | .e,x=>XL x
 | .b,x=>∃c,x = .b c
 | .i k,x=>∃n,x = .i k n∧(Lit.int k n).wf=true
 | .s,x=>∃l,x = .s l∧l.length≤maxLen
 | .l k b ts,x=>∃es,x = .l k es false∧es.length≤maxLen∧es.length*b≤qb4∧∀e∈es,∃cs,mkD k cs=some e∧qaA ts cs
def qaA:List Ty→List DV→Prop
 | [],[]=>True
 |t::ts,x::xs=>Has t x∧qaA ts xs
 | _,_=>False
end
def qjs (P:Program) (rec:TypeId→Option (List Ty)):List Field→Nat→Nat→Option (List Ty)
 | [],off,n=>if off=n then some [] else none
 |f::fs,off,n=>if f.offset≠off then none else (rec f.type).bind fun a=>if a.length≠P.cellsOf f.type then none else (qjs P rec fs (off+a.length) n).bind fun b=>some (a++b)
def tyB (P:Program) (u:TypeId):Option (List Ty):=match P.underlying u with
 |some .bool=>some [.b]
 |some (.int k)=>some [.i k]
 |some .string=>some [.s]
 | _=>none
def quO:Option (List Ty)→Bool
 |some [.i .i64,.i .i64,.s,.e]=>true
 | _=>false
def qpV (P:Program) (t:TypeId):Bool:=match P.underlying t with
 |some (.slice e)=>decide (kq P e=some (some 4))&&(decide (P.cellsOf e=4∧P.bytesOf e=56)&&match P.underlying e with
  |some (.struct fs)=>quO (qjs P (fun u=>if u=t then some [.e] else tyB P u) fs.toList 0 4)
  | _=>false)
 | _=>false
def qhu (P:Program):Nat→TypeId→Option (List Ty)
 | 0,_=>none
 |n+1,t=>match P.underlying t with
  |some .bool=>some [.b]
  |some (.int k)=>some [.i k]
  |some .string=>some [.s]
  |some (.slice e)=>if qpV P t=true then some [.e] else (kq P e).bind fun k=>(qhu P n e).bind fun ts=>if ts.length=P.cellsOf e∧k.size=ts.length∧0<ts.length then some [.l k (P.bytesOf e) ts] else none
  |some (.struct fs)=>qjs P (qhu P n) fs.toList 0 (P.cellsOf t)
  |some (.array m e)=>(qhu P n e).bind fun ts=>if ts.length=P.cellsOf e∧P.cellsOf t=m*P.cellsOf e then some (List.replicate m ts).flatten else none
  | _=>none
def Live (w:World):qai:=fun b o=>∃v,w.cell? ⟨b,o,none⟩=some v
theorem Live.swf (w:World):Swf w (Live w):=fun _ _ h=>h
def R1 (w:World) (t:Ty) (v:Value):Prop:=flat v∧∃x,Has t x∧RelD w (Live w) x v
def CR (w:World):List Ty→List Value→Prop
 | [],[]=>True
 |t::ts,v::vs=>R1 w t v∧CR w ts vs
 | _,_=>False
theorem CR.append {w:World} : ∀{ts:List Ty} {vs:List Value} {us:List Ty} {ws:List Value},CR w ts vs→CR w us ws→CR w (ts++us) (vs++ws)
 | [],[],_,_,_,k=>k
 | _::_,_::_,_,_,h,k=>⟨h.1,h.2.append k⟩
 | [],_::_,_,_,h,_=>h.elim
 | _::_,[],_,_,h,_=>h.elim
theorem CR.len {w:World} : ∀{ts:List Ty} {vs:List Value},CR w ts vs→ts.length=vs.length
 | [],[],_=>rfl
 | _::_,_::_,h=>by simp[h.2.len]
 | [],_::_,h=>h.elim
 | _::_,[],h=>h.elim
theorem CR.flat {w:World} : ∀{ts:List Ty} {vs:List Value},CR w ts vs→∀v∈vs,flat v
 | [],[],_,v,hv=>by cases hv
 | _::_,_::_,h,v,hv=>by
  rcases List.mem_cons.1 hv with rfl|hv
  ·exact h.1.1
  ·exact h.2.flat v hv
 | [],_::_,h,_,_=>h.elim
 | _::_,[],h,_,_=>h.elim
theorem CR.data {w:World} : ∀{ts:List Ty} {vs:List Value},CR w ts vs→∃xs,qaA ts xs∧xs.length=vs.length∧∀j (h:j<xs.length) (h':j<vs.length),RelD w (Live w) xs[j] vs[j]
 | [],[],_=>⟨[],by simp[qaA],rfl,fun j h=>by cases h⟩
 | _::_,_::_,h=>by
  obtain⟨xs,h1,h2,h3⟩:=h.2.data;obtain⟨-,x,h4,h5⟩:=h.1;refine⟨x::xs,by rw[qaA];exact⟨h4,h1⟩,by simp[h2],?_⟩
  intro j hj hj';cases j with
  |zero=>exact h5
  |succ j=>exact h3 j _ _
 | [],_::_,h=>h.elim
 | _::_,[],h=>h.elim
theorem CR.val {w:World} {ts:List Ty} {vs:List Value} (h:CR w ts vs) {k:K} (hk:k.size=ts.length) (c:Nat→Value) (hc : ∀m (h:m<vs.length),c m=vs[m]) :
  ∃xs e,mkD k xs=some e∧qaA ts xs∧RelD w (Live w) e (mkV k c):=by
 obtain⟨xs,h1,h2,h3⟩:=h.data;have hl:=h.len
 cases k with
 |none =>
  simp only[K.size] at hk;match xs,vs,h2 with
  | [x],[v],_ =>
   refine⟨[x],x,rfl,h1,?_⟩
   have:=h3 0 (by simp) (by simp)
   simp only[mkV];rw[hc 0 (by simp)]
   exact this
  | [],[],_=>simp at hl;subst hl;simp at hk
  | _::_::_,vs,e=>rw[←hl,←hk] at e;simp at e
 |some n =>
  simp only[K.size] at hk;have e:(List.range n).map c=vs:=by
   apply List.ext_getElem
   ·simp;omega
   ·intro m hm hm';simp[hc m hm']
  refine⟨xs,.a xs,by simp[mkD];omega,h1,?_⟩
  simp only[mkV,e];exact .a xs vs h2 h.flat h3
section
variable {H : Type} {enc : TypeId × Value → H} {P : Program} {w : World} {sp : Nat → Bool} {held : Bool}
def Wts (P:Program) (t:TypeId) (d:DataW H):Prop:=∀n∈d.weights P t,n≤reachBytes
theorem qsH {e:TypeId} : ∀{l:List (DataW H)},(∀n∈DataW.weightsAll P e l,n≤reachBytes)→∀d∈l,Wts P e d
 | [],_,d,hd=>by cases hd
 |x::r,h,d,hd=>by
  simp only[DataW.weightsAll,List.mem_append] at h;rcases List.mem_cons.1 hd with rfl|hd
  ·exact fun n hn=>h n (.inl hn)
  ·exact qsH (fun n hn=>h n (.inr hn)) d hd
theorem qsJ : ∀{ts:List TypeId} {l:List (DataW H)},(∀n∈DataW.weightsEach P ts l,n≤reachBytes)→∀i (h:i<ts.length) (h':i<l.length),Wts P ts[i] l[i]
 | [],_,_,i,h,_=>by cases h
 | _::_,[],_,i,_,h'=>by cases h'
 |t::ts,d::r,h,i,hi,hi'=>by
  simp only[DataW.weightsEach,List.mem_append] at h;cases i with
  |zero=>exact fun n hn=>h n (.inl hn)
  |succ i=>exact qsJ (fun n hn=>h n (.inr hn)) i (by simpa using hi) (by simpa using hi')
theorem qKm {t e:TypeId} {el sl:List (DataW H)} (hu:P.underlying t=some (.slice e)) (h:Wts P t (.slice el sl)):el.length*P.bytesOf e≤reachBytes∧∀d∈el,Wts P e d:=by
 unfold Wts at h;simp only[DataW.weights,hu,List.mem_cons,List.mem_append] at h;refine⟨Nat.le_trans (zzh _ (Nat.le_add_right _ _)) (h _ (.inl rfl)),fun d hd=>qsH (fun n hn=>h n (.inr (.inl hn))) d hd⟩
theorem qyd {t:TypeId} {fs:Array Field} {l:List (DataW H)} (hu:P.underlying t=some (.struct fs)) (h:Wts P t (.agg l)) (i:Nat) (hi:i<fs.size) (hi':i<l.length):Wts P fs[i].type l[i]:=by
 unfold Wts at h;simp only[DataW.weights,hu] at h
 have:=qsJ h i (by simpa using hi) hi'
 simpa using this
theorem qKl {t e:TypeId} {m:Nat} {l:List (DataW H)} (hu:P.underlying t=some (.array m e)) (h:Wts P t (.agg l)) : ∀d∈l,Wts P e d:=by
 unfold Wts at h;simp only[DataW.weights,hu] at h;exact qsH h
theorem qpx {rec:TypeId→Option (List Ty)} {cs:List Value} {n:Nat} (hn:cs.length=n) : ∀(fs:List Field) (off:Nat) (ts:List Ty),off≤n→qjs P rec fs off n=some ts →
  (∀f∈fs,∀ts',rec f.type=some ts'→CR w ts' ((cs.drop f.offset).take (P.cellsOf f.type)))→CR w ts (cs.drop off)
 | [],off,ts,ho,h,_=>by
  simp only[qjs] at h;split at h
  ·cases h;rw[List.drop_eq_nil_iff.2 (by omega)]
   trivial
  ·cases h
 |f::fs,off,ts,ho,h,hf=>by
  simp only[qjs] at h;split at h
  ·cases h
  rename_i h1;have h1:f.offset=off:=by simpa using h1
  obtain⟨a,ha,h⟩:=zza.1 h;split at h
  ·cases h
  rename_i h2;have h2:a.length=P.cellsOf f.type:=by simpa using h2
  obtain⟨b,hb,h⟩:=zza.1 h;cases h;have k1:=hf f (zzr ..) a ha
  have k1l:=k1.len
  rw[h1,←h2] at k1;have hle:off+a.length≤n:=by
   rw[List.length_take,List.length_drop,h1] at k1l;omega
  have k2:=qpx hn fs (off+a.length) b hle hb (fun g hg=>hf g (zzi _ hg))
  have:=k1.append k2
  rwa [←List.drop_drop,List.take_append_drop] at this
theorem qtz {cs:List Value} {c:Nat} {ts:List Ty} (ht:ts.length=c) : ∀(m i:Nat),cs.length=(i+m)*c→(∀j,i≤j→j<i+m→CR w ts ((cs.drop (j*c)).take c))→CR w (List.replicate m ts).flatten (cs.drop (i*c))
 | 0,i,hl,_=>by
  rw[List.drop_eq_nil_iff.2 (by rw[hl];simp)]
  trivial
 |m+1,i,hl,h=>by
  have k1:=h i (zzt _) (by omega)
  have k2:=qtz ht m (i+1) (by rw[hl];congr 1;omega) (fun j hj hj'=>h j (by omega) (by omega))
  have:=k1.append k2
  rw[Nat.succ_mul,←List.drop_drop,List.take_append_drop] at this;simpa[List.replicate_succ] using this
theorem qtA {t e:TypeId} {fuel:Nat} {cs:List Value} {x:DataW H×List MemPlace} {k:K} {c:Nat} {Pe:DV→Prop} (hu:P.underlying t=some (.slice e)) (hd:DataW.trod enc P w 0 sp held fuel t cs=some x) (hc1:c=P.cellsOf e) (hc2:k.size=c) (hc3:0<c) (hw:Wts P t x.1)
  (hel : ∀n cs' x',n<fuel→DataW.trod enc P w 0 sp held n e cs'=some x'→Wts P e x'.1→∃us,us.length=c∧CR w us cs'∧∀xs ee,mkD k xs=some ee→qaA us xs→Pe ee) :
  ∃v E,cs=[v]∧flat v∧RelD w (Live w) (.l k E false) v∧E.length≤maxLen∧E.length*P.bytesOf e≤qb4∧∀e∈E,Pe e:=by
 rcases DataW.trod_slice hu hd with ⟨rfl,-⟩|⟨a,len,cap,elems,rest,n,rfl,rfl,hxe,hb,hl,hm,hlen,hx,-,-⟩
 ·refine⟨_,[],rfl,rfl,?_,by simp,by simp,fun e he=>by cases he⟩
  exact .l k [] false none 0 0 0 (fun _ _=>.bool false) (zzt _) (fun h=>by cases h) (fun h=>by cases h) (fun j h=>by cases h) (fun j h=>by cases h)
 ·rw[hxe] at hw;obtain⟨hw1,hw2⟩:=qKm hu hw;have hs : ∀i,i<len→∃V:(Nat→Value)×DV,(∀q,q<k.size→w.cell? (a.add (i*P.cellsOf e+q))=some (V.1 q)∧flat (V.1 q))∧Pe V.2∧RelD w (Live w) V.2 (mkV k V.1):=by
   intro i hi;have h0:=hx i hi
   rw[zze (by omega)] at h0
   obtain⟨cs',h1,h2⟩:=zza.1 h0;obtain⟨us,hus,h3,hpe⟩:=hel n cs' _ (Nat.lt_succ_self n) h2 (hw2 _ (List.mem_map.2 ⟨_,zzs _,rfl⟩));obtain⟨-,h4,h5⟩:=World.cells?_some h1;obtain⟨xs,ee,e1,e2,e3⟩:=h3.val (k:=k) (by omega) (fun q=>cs'.getD q (.bool false)) (fun q hq=>by simp[hq])
   have hul:=h3.len
   refine⟨(fun q=>cs'.getD q (.bool false),ee),?_,hpe xs ee e1 e2,e3⟩
   intro q hq;have hq':q<cs'.length:=by omega
   have h6:=h5 q (by omega)
   rw[zze hq'] at h6;have e7:(cs'.getD q (.bool false))=cs'[q]:=by simp[hq']
   refine⟨?_,?_⟩
   ·rw[show (a.add (i*P.cellsOf e+q))=(a.add (i*P.cellsOf e)).add q by by_cases g1:i*P.cellsOf e=0<;>by_cases g2:q=0<;>simp[Addr.add,g1,g2,Nat.add_assoc]]
    simp only[e7];exact h6
   ·show flat (cs'.getD q (.bool false))
    rw[e7];exact h3.flat _ (zzs _)
  have:Inhabited ((Nat→Value)×DV):=⟨(fun _=>.bool false,.np)⟩
  obtain⟨V,hV⟩:=choose_lt hs;obtain⟨E,hE,hEV⟩ : ∃E:List DV,E.length=len∧∀i (h:i<E.length),E[i]=(V i).2:=⟨(List.range len).map fun i=>(V i).2,by simp,fun i h=>by simp⟩
  subst hE;have hk0:0<k.size:=by omega
  have sp0 : ∀j,j<E.length→a.spot=none:=by
   intro j hj
   have:=World.cell?_spot ((hV 0 (by omega)).1 0 hk0).1
   simpa[Addr.add] using this
  refine⟨_,E,rfl,rfl,?_,by omega,by simp only[zzo,hlen] at hw1;unfold qb4;unfold reachBytes at hw1;omega,?_⟩
  ·refine RelD.l (w:=w) (S:=Live w) k E false (some a) cap a.block a.off (fun j=>(V j).1) hl (fun h=>by cases h) ?_ ?_ ?_
   ·intro h0
    have:=sp0 0 h0
    cases a;simp_all
   ·intro j hj q hq;obtain⟨g1,g2⟩:=(hV j hj).1 q hq;have hs0:=sp0 j hj
    have e8:a.add (j*P.cellsOf e+q)=⟨a.block,a.off+j*k.size+q,none⟩:=by
     rw[←hc1,←hc2];obtain⟨ab,ao,as0⟩:=a;simp only at hs0;subst hs0;by_cases g:j*k.size+q=0<;>simp[Addr.add,g,Nat.add_assoc]
     omega
    rw[e8] at g1;exact⟨g1,⟨_,g1⟩,g2⟩
   ·intro j hj;rw[hEV j hj];exact (hV j hj).2.2
  ·intro ee he;obtain⟨i,hi,rfl⟩:=List.getElem_of_mem he;rw[hEV i hi];exact (hV i hi).2.1
theorem qzh {u:TypeId} {fuel:Nat} {cs:List Value} {x:DataW H×List MemPlace} {ts:List Ty} (hd:DataW.trod enc P w 0 sp held fuel u cs=some x) (h:tyB P u=some ts):CR w ts cs:=by
 unfold tyB at h;split at h
 ·rename_i hu;cases h;obtain⟨b,rfl,-⟩:=DataW.trod_bool hu hd;exact⟨⟨rfl,.b b,by simp[Has],.b b⟩,trivial⟩
 ·rename_i k hu;cases h;obtain⟨m,rfl,-,hw⟩:=DataW.trod_int hu hd;exact⟨⟨rfl,.i k m,by simp[Has,hw],.i k m⟩,trivial⟩
 ·rename_i hu;cases h;obtain⟨s,rfl,-,hs⟩:=DataW.trod_string hu hd;exact⟨⟨rfl,.s s.data.toList,by simpa[Has] using hs,.s _ s rfl⟩,trivial⟩
 ·cases h
theorem qKs {xs:List DV} {ee:DV} (h1:mkD (some 4) xs=some ee) (h2:qaA [.i .i64,.i .i64,.s,.e] xs):XE ee:=by
 match xs,h2 with
 | [x1,x2,x3,x4],h2 =>
  simp only[qaA,Has,and_true] at h2;obtain⟨⟨o,rfl,ho⟩,⟨n,rfl,hn⟩,⟨s,rfl,hs⟩,h4⟩:=h2;simp only[mkD,zzn,List.length_nil,if_true,zzb] at h1;subst h1;exact .mk o n s x4 ho hn hs h4
 | [],h2=>simp[qaA] at h2
 | [_],h2=>simp[qaA] at h2
 | [_,_],h2=>simp[qaA] at h2
 | [_,_,_],h2=>simp[qaA] at h2
 | _::_::_::_::_::_,h2=>simp[qaA] at h2
theorem qKt {t:TypeId} (ht:qpV P t=true) : ∀(m fuel:Nat) (cs:List Value) (x:DataW H×List MemPlace),fuel≤m→DataW.trod enc P w 0 sp held fuel t cs=some x→Wts P t x.1→CR w [.e] cs:=by
 have ht0:=ht
 unfold qpV at ht;split at ht;case h_2=>cases ht
 rename_i e hu;simp only[zzf,zzq] at ht;obtain⟨hk,⟨hc,hb⟩,ht⟩:=ht;split at ht;case h_2=>cases ht
 rename_i fs hf;obtain⟨ts,hts,h4⟩ : ∃ts,qjs P (fun u=>if u=t then some [.e] else tyB P u) fs.toList 0 4=some ts∧ts=[.i .i64,.i .i64,.s,.e]:=by
  unfold quO at ht;split at ht
  ·rename_i hq;exact⟨_,hq,rfl⟩
  ·cases ht
 subst h4;intro m;induction m with
 |zero =>
  intro fuel cs x hm hd _;obtain rfl:fuel=0:=by omega
  simp[DataW.trod] at hd
 |succ m ih =>
  intro fuel cs x hm hd hw;obtain⟨v,E,rfl,hfl,hr,hlen,hlb,hE⟩:=qtA (k:=some 4) (c:=4) (Pe:=XE) hu hd hc.symm rfl (by decide) hw (fun n cs' x' hn hd' hw'=>by
   refine⟨_,rfl,?_,fun xs ee h1 h2=>qKs h1 h2⟩
   obtain⟨xs,n',rfl,hxe,hl,hl2,hx⟩:=DataW.trod_struct hf hd';rw[hxe] at hw'
   have:=qpx (P:=P) (w:=w) (rec:=fun u=>if u=t then some [.e] else tyB P u) (hl.trans hc) fs.toList 0 _ (Nat.zero_le _) hts (fun f hf' ts' hts'=>by
    obtain⟨i,hi,rfl⟩:=List.getElem_of_mem hf';have hi':i<fs.size:=by simpa using hi
    have h5:=hx i fs[i] (by simp[hi'])
    rw[zze (by omega)] at h5
    simp only[Array.getElem_toList] at hts'⊢;split at hts'
    ·rename_i hft;cases hts';rw[hft] at h5⊢;exact ih n' _ _ (by omega) h5 (by have:=qyd hf hw' i hi' (by simp;omega);rw[hft] at this;simpa using this)
    ·exact qzh h5 hts')
   simpa using this)
  exact⟨⟨hfl,_,by rw[Has];exact .mk E hlen hE (by rw[←hb];exact hlb),hr⟩,trivial⟩
theorem qzi (n:Nat) : ∀{fuel:Nat} {t:TypeId} {cs:List Value} {x:DataW H×List MemPlace} {ts:List Ty},DataW.trod enc P w 0 sp held fuel t cs=some x→Wts P t x.1→qhu P n t=some ts→CR w ts cs:=by
 induction n with
 |zero=>intro fuel t cs x ts _ _ h;cases h
 |succ n ih =>
  intro fuel t cs x ts hd hw h;simp only[qhu] at h;split at h
  ·rename_i hu;cases h;obtain⟨b,rfl,-⟩:=DataW.trod_bool hu hd;exact⟨⟨rfl,.b b,by simp[Has],.b b⟩,trivial⟩
  ·rename_i k hu;cases h;obtain⟨m,rfl,-,hw⟩:=DataW.trod_int hu hd;exact⟨⟨rfl,.i k m,by simp[Has,hw],.i k m⟩,trivial⟩
  ·rename_i hu;cases h;obtain⟨s,rfl,-,hs⟩:=DataW.trod_string hu hd;exact⟨⟨rfl,.s s.data.toList,by simpa[Has] using hs,.s _ s rfl⟩,trivial⟩
  ·rename_i e hu;split at h
   ·rename_i hX;cases h;exact qKt hX fuel fuel cs x (zzt _) hd hw
   obtain⟨k,hk,h⟩:=zza.1 h;obtain⟨us,hus,h⟩:=zza.1 h;split at h
   ·rename_i hc;cases h;obtain⟨hc1,hc2,hc3⟩:=hc;obtain⟨v,E,rfl,hfl,hr,hlen,hlb,hE⟩:=qtA (k:=k) (c:=us.length) (Pe:=fun ee=>∃cs,mkD k cs=some ee∧qaA us cs) hu hd hc1 hc2 hc3 hw (fun n' cs' x' _ hd' hw'=>⟨us,rfl,ih hd' hw' hus,fun xs ee h1 h2=>⟨xs,h1,h2⟩⟩)
    refine⟨⟨hfl,_,?_,hr⟩,trivial⟩;rw[Has];exact⟨E,rfl,hlen,hlb,hE⟩
   ·cases h
  ·rename_i fs hu;obtain⟨xs,m,-,hxe,hl,hl2,hx⟩:=DataW.trod_struct hu hd;rw[hxe] at hw
   have:=qpx (P:=P) (w:=w) (rec:=qhu P n) hl fs.toList 0 ts (Nat.zero_le _) h (fun f hf ts' hts=>by
    obtain⟨i,hi,rfl⟩:=List.getElem_of_mem hf;have hi':i<fs.size:=by simpa using hi
    have:=hx i fs[i] (by simp[hi'])
    rw[zze (by omega)] at this
    simpa using ih this (by have:=qyd hu hw i hi' (by simp;omega);simpa using this) hts)
   simpa using this
  ·rename_i m e hu;obtain⟨us,hus,h⟩:=zza.1 h;split at h
   ·rename_i hc;cases h;obtain⟨xs,m',-,hxe,hl,hl2,hx⟩:=DataW.trod_array hu hd;rw[hxe] at hw
    have:=qtz (w:=w) (cs:=cs) hc.1 m 0 (by rw[hl,hc.2];simp) (fun j _ hj=>by
     have:=hx j (by omega)
     rw[zze (by omega)] at this
     exact ih this (qKl hu hw _ (List.mem_map.2 ⟨_,zzs _,rfl⟩)) hus)
    simpa using this
   ·cases h
  ·cases h
end
end Go.Sim
end
section
open Go.RowKit
namespace Go.Sim
section
variable {P : Program} {W : World}
theorem qvo {n:String} {d:DataW Unit} : ∀{l:List (String×DataW Unit)} {ps:List MemPlace},DataW.LaidVars P W l ps→(n,d)∈l →
  ∃g t cs fuel p,P.globalNamed n=some g∧(P.globals[g]?).map (·.type)=some t∧W.var? P n=some cs∧DataW.trod (fun _=>()) P W 0 (fun _=>true) false fuel t cs.toList=some (d,p)∧∀x∈MemPlace.row ⟨g,0,none⟩ cs.size,x∈ps
 | [],_,_,h=>by cases h
 | (m,e)::r,ps,h,hm=>by
  obtain⟨g,t,cs,fuel,p,q,h1,h2,h3,h4,h5,rfl⟩:=h;rcases List.mem_cons.1 hm with h|h
  ·cases h;exact⟨g,t,cs,fuel,p,h1,h2,h3,h4,fun x hx=>List.mem_append_left _ (List.mem_append_left _ hx)⟩
  ·obtain⟨g',t',cs',fuel',p',a1,a2,a3,a4,a5⟩:=qvo h5 h;exact⟨g',t',cs',fuel',p',a1,a2,a3,a4,fun x hx=>List.mem_append_right _ (a5 x hx)⟩
theorem qvp {laid:List (String×DataW Unit)} (h:laidMet P laid W) {n:String} {d:DataW Unit} (hm:(n,d)∈laid) {g:Nat} (hg:P.globalNamed n=some g) {t:TypeId} (ht:(P.globals[g]?).map (·.type)=some t) :
  ∃(cs:Array Value) (fuel:Nat) (p:List MemPlace),DataW.trod (fun _=>()) P W 0 (fun _=>true) false fuel t cs.toList=some (d,p)∧(0<cs.size→∃e,W.shape? g=some (e,cs.size))∧∀j (hj:j<cs.size),W.cell? ⟨g,j,none⟩=some cs[j]:=by
 obtain⟨ps,h1,-,h3⟩:=h;obtain⟨g',t',cs,fuel,p,a1,a2,a3,a4,a5⟩:=qvo h1 hm;obtain rfl:=Option.some.inj (hg.symm.trans a1);obtain rfl:=Option.some.inj (ht.symm.trans a2);have hheap : ∃e fz,W.heap[g]? = some (.cells cs e fz):=by
  unfold World.var? at a3;rw[hg] at a3;simp only[Option.bind_some] at a3;split at a3
  ·rename_i cs' e fz hw;cases a3;exact⟨e,fz,hw⟩
  ·cases a3
 obtain⟨e,fz,hw⟩:=hheap;refine⟨cs,fuel,p,a4,?_,?_⟩
 ·intro hp;obtain⟨⟨c,u,hc⟩,-⟩:=h3 g 0 (a5 _ (by unfold MemPlace.row;exact List.mem_map.2 ⟨0,List.mem_range.2 hp,rfl⟩))
  rw[hw] at hc;cases hc;exact⟨e,by simp[World.shape?,hw]⟩
 ·intro j hj;simp[World.cell?,hw,hj]
theorem qz5 {S:qai} (hS:S=Live W) {g:Nat} {zs:List (IntKind×Int)} (hz:0<zs.length) {cs:Array Value} (hl:cs.toList=zs.map fun z=>Value.int z.1 z.2) (hs:0<cs.size→∃e,W.shape? g=some (e,cs.size)) (hc : ∀j (hj:j<cs.size),W.cell? ⟨g,j,none⟩=some cs[j]) :
  (∃e,W.shape? g=some (e,zs.length))∧∃f,At W S g 0 zs.length f∧RelD W S (.a (zs.map fun z=>.i z.1 z.2)) (mkV (some zs.length) f):=by
 subst hS;have hn:cs.size=zs.length:=by rw[←Array.length_toList,hl,zzo]
 have hget : ∀j (hj:j<zs.length),cs[j]'(by omega) = .int zs[j].1 zs[j].2:=fun j hj=>by
  have h1:cs.toList[j]'(by rw[Array.length_toList];omega)=cs[j]'(by omega):=Array.getElem_toList _
  rw[←h1];simp only[hl,List.getElem_map]
 refine⟨?_,fun j=>cs.getD j (.bool false),?_,?_⟩
 ·obtain⟨e,he⟩:=hs (by omega)
  exact⟨e,by rw[he,hn]⟩
 ·intro j hj;have h1:=hc j (by omega)
  have h2:cs.getD j (.bool false)=cs[j]'(by omega):=by simp[Array.getD,show j<cs.size by omega]
  refine⟨by rw[Nat.zero_add];show _=some (cs.getD j (.bool false));rw[h2];exact h1,⟨_,by rw[Nat.zero_add];exact h1⟩,?_⟩
  show flat (cs.getD j (.bool false))
  rw[h2,hget j hj];rfl
 ·simp only[mkV];refine RelD.a _ _ (by simp) ?_ ?_
  ·intro v hv;obtain⟨j,hj,rfl⟩:=List.mem_map.1 hv;have hj:=List.mem_range.1 hj
   have h2:cs.getD j (.bool false)=cs[j]'(by omega):=by simp[Array.getD,show j<cs.size by omega]
   show flat (cs.getD j (.bool false))
   rw[h2,hget j hj];rfl
  ·intro j hj hj';simp only[zzo] at hj;simp only[List.getElem_map,List.getElem_range];have h2:cs.getD j (.bool false)=cs[j]'(by omega):=by simp[Array.getD,show j<cs.size by omega]
   rw[h2,hget j hj];exact .i _ _
theorem quE {laid:List (String×DataW Unit)} (h:laidMet P laid W) {n:String} {k:IntKind} {zs:List Int} (hm:(n,.agg (zs.map fun z=>.lit (.int k z)))∈laid) {g:Nat} (hg:P.globalNamed n=some g) {t:TypeId} (ht:(P.globals[g]?).map (·.type)=some t)
  {m:Nat} {e:TypeId} (hu:P.underlying t=some (.array m e)) (he:P.underlying e=some (.int k)) (hc:P.cellsOf e=1) (hct:P.cellsOf t=m) (hz:0<zs.length) :
  (∃e,W.shape? g=some (e,zs.length))∧∃f,At W (Live W) g 0 zs.length f∧RelD W (Live W) (.a (zs.map fun z=>.i k z)) (mkV (some zs.length) f):=by
 obtain⟨cs,fuel,p,h1,h2,h3⟩:=qvp h hm hg ht;obtain⟨xs,m',rfl,hx,hl,hxl,hel⟩:=DataW.trod_array hu h1;simp only[zzc,DataW.agg.injEq] at hx;have hzl:zs.length=m:=by
  have:=congrArg List.length hx.1
  simp only[zzo] at this;omega
 have hcs:cs.toList=(zs.map fun z=>(k,z)).map fun z=>Value.int z.1 z.2:=by
  apply List.ext_getElem
  ·simp only[zzo];rw[hl,hct,hzl]
  ·intro j hj hj';simp only[zzo] at hj';have hjm:j<m:=by omega
   have h4:=hel j hjm
   rw[hc,Nat.mul_one,zze (by omega)] at h4
   obtain⟨n',e1,e2,-⟩:=DataW.trod_int he h4;have e3:cs.toList[j] = .int k n':=by
    have:(cs.toList.drop j).take 1=[cs.toList[j]]:=by
     rw[List.drop_eq_getElem_cons hj];rfl
    rw[this] at e1;exact (List.cons.inj e1).1
   rw[e3];have e4:(xs.map (·.1))[j]'(by simp;omega) = .lit (.int k n'):=by simp only[List.getElem_map];rw[e2]
   have e5:(zs.map fun z=>(DataW.lit (.int k z):DataW Unit))[j]'(by simp;omega) = .lit (.int k n'):=by
    rw[←e4];congr 1;exact hx.1
   simp only[List.getElem_map] at e5;have e6:zs[j]=n':=by simpa using e5
   simp only[List.getElem_map];rw[e6]
 have:=qz5 (W:=W) rfl (g:=g) (zs:=zs.map fun z=>(k,z)) (by simpa using hz) hcs h2 h3
 simpa only[zzo,List.map_map,Function.comp_def] using this
noncomputable def qnh (gl:List (Nat×Nat)) (g:Nat):Nat:=qcg (fun x=>x) (g+100) gl g
theorem qz6 {f:FuncId→Option (Nat×Nat)} {gl:List (Nat×Nat)} {gs:List (Nat×DV×K)} {S:qai} (hlow:(gs.all fun x=>Nat.blt x.1 100)=true)
  (h : ∀x∈gl,∀v k,qcg some none gs x.2=some (v,k)→(∃e,W.shape? x.1=some (e,k.size))∧∃c,At W S x.1 0 k.size c∧RelD W S v (mkV k c)):GOK ⟨f,qnh gl⟩ (qcg some none gs) W S:=by
 intro g v k hg;change qcg some none gs (qnh gl g)=_ at hg
 unfold qnh at hg;rcases qiq (f:=fun x=>x) (z:=g+100) (l:=gl) (n:=g) with h1|⟨x,h1,h2⟩
 ·exfalso
  rw[h1] at hg;rcases qiq (f:=some) (z:=none) (l:=gs) (n:=g+100) with h3|⟨y,h3,-⟩
  ·rw[h3] at hg;cases hg
  ·have:=List.all_eq_true.1 hlow _ h3
   have:=Nat.le_of_ble_eq_true this
   omega
 ·rw[h2] at hg;exact h (g,x) h1 v k hg
end
end Go.Sim
end
section
namespace Go.Sim
def qcI:PC→List (List Nat)→PC×List (List Nat)
 | .seq a b,l=>(.seq (qcI a l).1 (qcI b (qcI a l).2).1,(qcI b (qcI a l).2).2)
 | .cond c x y,l=>(.cond c (qcI x l).1 (qcI y (qcI x l).2).1,(qcI y (qcI x l).2).2)
 | .block id x,l=>(.block id (qcI x l).1,(qcI x l).2)
 | .loop _ x,m::l=>(.loop m (qcI x l).1,(qcI x l).2)
 | .rng f g ps _ a x,m::l=>(.rng f g ps m (qcI a l).1 (qcI x (qcI a l).2).1,(qcI x (qcI a l).2).2)
 |c,l=>(c,l)
def qll (F:PF) (l:List (List Nat)):PF:=⟨F.nargs,F.results,(qcI F.body l).1⟩
end Go.Sim
end
section
namespace Go.Sim
def cv {α:Type} {a x:α} (_:a=x):α:=x
@[simp] theorem qKA {α:Type} {a x:α} (h:a=x):cv h=x:=rfl
def qzj (m n:Nat):Bool:=Nat.beq (m >>> n &&& 1) 1
def qmZ (m n:Nat):Nat:=m ||| 1 <<< n
def qtB (m n:Nat):Nat:=m ^^^ (m &&& 1 <<< n)
def qhI (m:Nat):List Nat→Nat
 | []=>m
 |x::l=>qhI (qmZ m x) l
def qpz (k m:Nat):List Nat:=if h:m=0 then [] else bif Nat.beq (m%2) 1 then k::qpz (k+1) (m/2) else qpz (k+1) (m/2)
termination_by m
decreasing_by all_goals omega
def qij (out:Nat):List IOper→Nat
 | []=>out
 | ⟨some d,x,some (t,_)⟩::r=>qmZ (qhI (qtB (qij out r) d) x.uses) t
 | ⟨some d,x,none⟩::r=>qhI (qtB (qij out r) d) x.uses
 | ⟨none,x,some (t,_)⟩::r=>qmZ (qhI (qij out r) x.uses) t
 | ⟨none,x,none⟩::r=>qhI (qij out r) x.uses
def qm0 (s:Nat) (acc:List Nat):List Nat→Nat×List Nat
 | []=>(s,acc)
 |a::r=>bif qzj s a then qm0 s acc r else qm0 (qmZ s a) (a::acc) r
def qm1 (s:Nat) (acc:List Nat):List IOper→List Nat
 | []=>acc
 | ⟨some d,x,_⟩::r=>match qm0 s acc (d::x.uses) with|(s',acc')=>qm1 s' acc' r
 | ⟨none,x,_⟩::r=>match qm0 s acc x.uses with|(s',acc')=>qm1 s' acc' r
def qpy (id:Nat):List (Nat×Nat)→Nat
 | []=>0
 |e::r=>bif Nat.beq e.1 id then e.2 else qpy id r
def qhJ (exits:List (Nat×Nat)) (ret:Nat):PC→Nat→Nat
 | .reg ops _,out=>qij out ops
 | .regD ops _ _,out=>qij out ops
 | .seq a b,out=>qhJ exits ret a (qhJ exits ret b out)
 | .cond c x y,out=>qhI (qhJ exits ret x out ||| qhJ exits ret y out) c.uses
 | .block id x,out=>qhJ ((id,out)::exits) ret x out
 | .loop _ x,_=>qhJ exits ret x (qhJ exits ret x 0)
 | .exit id,_=>qpy id exits
 | .ret,_=>ret
 | .skip,out=>out
 | .rng _ _ _ _ _ _,out=>out
 | .bad,out=>out
def qi1 (exits:List (Nat×Nat)) (ret:Nat):PC→Nat→PC×Nat
 | .reg ops _,out=>(.reg ops (qm1 out [] ops),qij out ops)
 | .regD ops bf _,out=>(.regD ops bf (qm1 out [] ops),qij out ops)
 | .seq a b,out =>
  match qi1 exits ret b out with
  | (b',m)=>match qi1 exits ret a m with
   | (a',l)=>(.seq a' b',l)
 | .cond c x y,out =>
  match qi1 exits ret x out with
  | (x',l)=>match qi1 exits ret y out with
   | (y',m)=>(.cond c x' y',qhI (l ||| m) c.uses)
 | .block id x,out=>match qi1 ((id,out)::exits) ret x out with
  | (x',l)=>(.block id x',l)
 | .loop _ x,_ =>
  match qi1 exits ret x (qhJ exits ret x (qhJ exits ret x 0)) with
  | (x',L)=>(.loop (qpz 0 L) x',L)
 | .exit id,_=>(.exit id,qpy id exits)
 | .ret,_=>(.ret,ret)
 | .skip,out=>(.skip,out)
 | .rng f g ps n a x,out=>(.rng f g ps n a x,out)
 | .bad,out=>(.bad,out)
def qm2:List RV→List Nat
 | []=>[]
 | .t n::r=>n::qm2 r
 | .c n _::r=>n::qm2 r
def qv2 (F:PF):PF:=⟨F.nargs,F.results,(qi1 [] (qhI 0 (qm2 F.results)) F.body (qhI 0 (qm2 F.results))).1⟩
def qj2:PC→List PC
 | .seq a b=>qj2 a++qj2 b
 | .cond _ x y=>qj2 x++qj2 y
 | .block _ x=>qj2 x
 | .loop _ x=>[x]
 | _=>[]
def lq (c:PC) (i:Nat):PC:=((qj2 c)[i]?).getD .skip
@[simp] abbrev cL (c:PC) (i:Nat) {x:PC} (_:lq c i=x:=by conv=>lhs;cbv):PC:=x
end Go.Sim
end
