/- Part 14 of the proof: CbFast. -/
import Derived.Test.YtahfohlafjiajaaGreatDoorB3
namespace Go.Sim
noncomputable section
def qk0 (fr:Fr) (t:Nat):PV := @List.rec (Nat×PV) (fun _=>PV) .u (fun p _ ih => @Prod.rec Nat PV (fun _=>PV) (fun j v => @Bool.rec (fun _=>PV) ih v (Nat.beq j t)) p) fr
theorem qkH {j t:Nat} (h : ¬j=t):Nat.beq j t=false:=by
 cases e:Nat.beq j t with
 |false=>rfl
 |true=>exact absurd (Nat.eq_of_beq_eq_true e) h
theorem qnq : ∀fr t,qk0 fr t=Fr.get fr t
 | [],t=>rfl
 | (j,v)::r,t=>by
  have ih:=qnq r t
  show @Bool.rec (fun _=>PV) (qk0 r t) v (Nat.beq j t)=_
  rw[ih,Fr.get];by_cases h:j=t
  ·subst h;rw[if_pos rfl,Nat.beq_refl]
  ·rw[if_neg h,qkH h]
def qnn (fr:Fr) (t:Nat) (v:PV):Fr := @List.rec (Nat×PV) (fun _=>Fr) [(t,v)] (fun p r ih => @Prod.rec Nat PV (fun _=>Fr) (fun j x => @Bool.rec (fun _=>Fr) (@Bool.rec (fun _=>Fr) ((j,x)::ih) ((t,v)::(j,x)::r) (Nat.ble (Nat.succ j) t)) ((t,v)::r) (Nat.beq j t)) p) fr
theorem qvh : ∀fr t v,qnn fr t v=Fr.set fr t v
 | [],t,v=>rfl
 | (j,x)::r,t,v=>by
  have ih:=qvh r t v
  show @Bool.rec (fun _=>Fr) (@Bool.rec (fun _=>Fr) ((j,x)::qnn r t v) ((t,v)::(j,x)::r) (Nat.ble (Nat.succ j) t)) ((t,v)::r) (Nat.beq j t)=_
  rw[ih,Fr.set];by_cases h:j=t
  ·subst h;rw[if_pos rfl,Nat.beq_refl]
  ·rw[if_neg h,qkH h];show @Bool.rec (fun _=>Fr) _ _ (Nat.ble (Nat.succ j) t)=_
   by_cases h2:j<t
   ·rw[if_pos h2,Nat.ble_eq_true_of_le h2]
   ·rw[if_neg h2,Bool.eq_false_iff.2 (fun e=>h2 (Nat.le_of_ble_eq_true e))]
def qlj (l:List Nat) (j:Nat):Bool := @List.rec Nat (fun _=>Bool) false (fun x _ ih => @Bool.rec (fun _=>Bool) ih true (Nat.beq x j)) l
theorem qsT : ∀l j,qlj l j=l.contains j
 | [],j=>rfl
 |x::r,j=>by
  have ih:=qsT r j
  show @Bool.rec (fun _=>Bool) (qlj r j) true (Nat.beq x j)=_
  rw[ih,List.contains_cons];by_cases h:x=j
  ·subst h;rw[Nat.beq_refl];simp
  ·rw[qkH h];have:(j==x)=false:=by simpa using fun e=>h e.symm
   rw[this];rfl
def qkO (l:List Nat) (fr:Fr):Fr := @List.rec (Nat×PV) (fun _=>Fr) [] (fun p _ ih => @Prod.rec Nat PV (fun _=>Fr) (fun j v => @Bool.rec (fun _=>Fr) ((j,v)::ih) (@Bool.rec (fun _=>Fr) ((j,v)::ih) ih (Nat.ble (Nat.succ j) 100000)) (qlj l j)) p) fr
theorem qve (l:List Nat) : ∀fr,qkO l fr=Fr.drop l fr
 | []=>rfl
 | (j,v)::r=>by
  have ih:=qve l r
  show @Bool.rec (fun _=>Fr) ((j,v)::qkO l r) (@Bool.rec (fun _=>Fr) ((j,v)::qkO l r) (qkO l r) (Nat.blt j gh)) (qlj l j)=_
  rw[ih,Fr.drop,qsT];cases l.contains j<;>cases Nat.blt j gh<;>rfl
def qcG {α β:Type} (f:α→β) (l:List α):List β := @List.rec α (fun _=>List β) [] (fun x _ ih=>f x::ih) l
theorem qaO {α β:Type} (f:α→β) : ∀l,qcG f l=l.map f
 | []=>rfl
 |x::r=>by show f x::qcG f r=_;rw[qaO f r];rfl
def qjG {α:Type} (l m:List α):List α := @List.rec α (fun _=>List α) m (fun x _ ih=>x::ih) l
theorem qn0 {α:Type} : ∀(l m:List α),qjG l m=l++m
 | [],m=>rfl
 |x::r,m=>by show x::qjG r m=_;rw[qn0 r m];rfl
def qhh {α:Type} (l:List α):Nat := @List.rec α (fun _=>Nat) 0 (fun _ _ ih=>Nat.succ ih) l
theorem qkT {α:Type} : ∀(l:List α),qhh l=l.length
 | []=>rfl
 |x::r=>by show Nat.succ (qhh r)=_;rw[qkT r];rfl
def qqs {α:Type} (l:List α):Nat→Option α := @List.rec α (fun _=>Nat→Option α) (fun _=>none) (fun x _ ih n => @Nat.rec (fun _=>Option α) (some x) (fun m _=>ih m) n) l
theorem qtv {α:Type} : ∀(l:List α) (n:Nat),qqs l n=l[n]?
 | [],n=>rfl
 |x::r,0=>rfl
 |x::r,n+1=>by show qqs r n=_;rw[qtv r n];rfl
def qnY {α:Type} (x:α) (n:Nat) (l:List α):List α := @Nat.rec (fun _=>List α) l (fun _ ih=>x::ih) n
theorem qtS {α:Type} (x:α) (l:List α) : ∀n,qnY x n l=List.replicate n x++l
 | 0=>rfl
 |n+1=>by show x::qnY x n l=_;rw[qtS x l n];rfl
def qgx (H:Heap) (o:Nat):Option Obj := @Option.rec (Option Obj) (fun _=>Option Obj) none (fun x=>x) (qqs H o)
theorem qy6 (H:Heap) (o:Nat):qgx H o=Heap.obj H o:=by
 unfold qgx Heap.obj;rw[qtv];cases H[o]? <;> rfl
def krd (E:Env) (fr:Fr) (x:Rand):PV := @Rand.rec (fun _=>PV) (fun t=>qk0 fr t) (fun v=>.d v) (fun n=>match E.G n with|some (v,k)=>.q v k 0|none=>.u) (fun n=>.f n []) x
theorem qsj (E:Env) (fr:Fr):krd E fr=rd E fr:=by
 funext x
 cases x with
 |t n=>exact qnq fr n
 |c v=>rfl
 |f n=>rfl
 |g n=>simp only[krd,rd];cases E.G n<;>rfl
def qa0:Heap→K→PV→Option PV:=qcj
def qa1:Heap→K→PV→PV→Option Heap:=qcf
def qaW:Heap→K→PV→PV→Option PV:=iaddr
def qaY:BinOp→PV→PV→Option DV:=qbb
def qaR:Nat→PV→Option PV:=qgt
def qaZ:Heap→Bool→PV→Option Nat:=qcS
def qqB (x:Rand) (E:Env) (fr:Fr) (H:Heap) (id:Nat):Option (PV×Heap):=some (krd E fr x,H)
def qn6 (c:Rand) (a:Rand) (b:Rand) (E:Env) (fr:Fr) (H:Heap) (id:Nat):Option (PV×Heap):=match krd E fr c with
  | .d (.b true)=>some (krd E fr a,H)
  | .d (.b false)=>some (krd E fr b,H)
  | _=>none
def qnA (k:K) (z:DV) (E:Env) (fr:Fr) (H:Heap) (id:Nat):Option (PV×Heap):=some (.p id 0 0,H.put id (some (.box k (.d z))))
def qpD (k:K) (x:Rand) (E:Env) (fr:Fr) (H:Heap) (id:Nat):Option (PV×Heap):=if fits k (krd E fr x) then some (.p id 0 0,H.put id (some (.box k (krd E fr x)))) else none
def qoz (z:List DV) (parts:List (Nat×K×Rand)) (E:Env) (fr:Fr) (H:Heap) (id:Nat):Option (PV×Heap):=match qcO (z.map .d) (parts.map fun x=>(x.1,x.2.1,krd E fr x.2.2)) with
  |some cs=>some (mkA cs,H)
  |none=>none
def qoZ (k:K) (z:DV) (len:Nat) (parts:List (Nat×Rand)) (E:Env) (fr:Fr) (H:Heap) (id:Nat):Option (PV×Heap):=match qca H k (List.replicate len z) (parts.map fun x=>(x.1,krd E fr x.2)) with
  |some (es,os)=>some (.r id k 0 len true,(frz H os).put id (some (.sl k 0 es)))
  |none=>none
def qox (k:K) (x:Rand) (E:Env) (fr:Fr) (H:Heap) (id:Nat):Option (PV×Heap):=opt (qa0 H k (krd E fr x)) H
def qpS (k:K) (x:Rand) (y:Rand) (E:Env) (fr:Fr) (H:Heap) (id:Nat):Option (PV×Heap):=match qa1 H k (krd E fr x) (krd E fr y) with|some H'=>some (.u,H')|none=>none
def qpM (op:BinOp) (x:Rand) (y:Rand) (E:Env) (fr:Fr) (H:Heap) (id:Nat):Option (PV×Heap):=qgg (qaY op (krd E fr x) (krd E fr y)) H
def qpP (neg:Bool) (n:List Nat) (x:Rand) (y:Rand) (E:Env) (fr:Fr) (H:Heap) (id:Nat):Option (PV×Heap):=match eqA n (krd E fr x) (krd E fr y) with
  |some e=>some (.d (.b (if neg then !e else e)),H)
  |none=>none
def qpw (neg:Bool) (x:Rand) (y:Rand) (E:Env) (fr:Fr) (H:Heap) (id:Nat):Option (PV×Heap):=match krd E fr x,krd E fr y with
  | .d (.b a),.d (.b b)=>some (.d (.b (if neg then !(a==b) else a==b)),H)
  | _,_=>none
def qov (neg:Bool) (kd:Nat) (x:Rand) (E:Env) (fr:Fr) (H:Heap) (id:Nat):Option (PV×Heap):=match qfv kd (krd E fr x) with|some b=>some (.d (.b (if neg then !b else b)),H)|none=>none
def qqz (op:UnOp) (x:Rand) (E:Env) (fr:Fr) (H:Heap) (id:Nat):Option (PV×Heap):=qgg (unA op (krd E fr x)) H
def qqe (k:IntKind) (x:Rand) (E:Env) (fr:Fr) (H:Heap) (id:Nat):Option (PV×Heap):=match krd E fr x with | .d (.i _ n)=>some (.d (.i k (k.wrap n)),H)|_=>none
def qnP (x:Rand) (lo:Option Rand) (hi:Option Rand) (E:Env) (fr:Fr) (H:Heap) (id:Nat):Option (PV×Heap):=match krd E fr x with
  | .d (.s s)=>match bnd s.length s.length (hi.map (krd E fr)) with
   |some h=>match bnd 0 h (lo.map (krd E fr)) with
    |some l=>some (.d (.s ((s.take h).drop l)),H)
    |none=>none
   |none=>none
  | _=>none
def qno (k:K) (x:Rand) (lo:Option Rand) (hi:Option Rand) (mx:Option Rand) (E:Env) (fr:Fr) (H:Heap) (id:Nat):Option (PV×Heap):=opt (slA H k (krd E fr x) (lo.map (krd E fr)) (hi.map (krd E fr)) (mx.map (krd E fr))) H
def qpG (off:Nat) (x:Rand) (E:Env) (fr:Fr) (H:Heap) (id:Nat):Option (PV×Heap):=opt (qaR off (krd E fr x)) H
def qnu (off:Nat) (k:K) (x:Rand) (E:Env) (fr:Fr) (H:Heap) (id:Nat):Option (PV×Heap):=opt (qhY off k (krd E fr x)) H
def qpd (k:K) (x:Rand) (i:Rand) (E:Env) (fr:Fr) (H:Heap) (id:Nat):Option (PV×Heap):=opt (qaW H k (krd E fr x) (krd E fr i)) H
def qoJ (len:Nat) (k:K) (x:Rand) (i:Rand) (E:Env) (fr:Fr) (H:Heap) (id:Nat):Option (PV×Heap):=match asI (krd E fr i) with
  |some n=>match inR n len with|some j=>opt (qaR (j*k.size) (krd E fr x)) H|none=>none
  |none=>none
def qoU (x:Rand) (i:Rand) (E:Env) (fr:Fr) (H:Heap) (id:Nat):Option (PV×Heap):=match krd E fr x,asI (krd E fr i) with
  | .d (.s s),some n=>if 0≤n then match s[n.toNat]? with
   |some b=>some (.d (.i .u8 b.toNat),H)
   |none=>none
   else none
  | _,_=>none
def qoM (len:Nat) (k:K) (x:Rand) (i:Rand) (E:Env) (fr:Fr) (H:Heap) (id:Nat):Option (PV×Heap):=match asI (krd E fr i) with
  |some n=>match inR n len with
   |some j=>opt (qhY (j*k.size) k (krd E fr x)) H
   |none=>none
  |none=>none
def qp4 (str:Bool) (x:Rand) (E:Env) (fr:Fr) (H:Heap) (id:Nat):Option (PV×Heap):=match qaZ H str (krd E fr x) with|some n=>some (.d (.i .i64 n),H)|none=>none
def qpy (k:K) (bytes:Nat) (x:Rand) (y:Rand) (E:Env) (fr:Fr) (H:Heap) (id:Nat):Option (PV×Heap):=qcK H id k bytes (krd E fr x) (krd E fr y)
def qog (f:Nat) (args:List Rand) (E:Env) (fr:Fr) (H:Heap) (id:Nat):Option (PV×Heap):=match qa7 H (qcG (krd E fr) args) with
  |some (ds,os)=>match E.val f ds with
   |some (r,_)=>some (r,if os.isEmpty||r.scal then H else frz H os)
   |none=>none
  |none=>none
def qn7 (f:Nat) (args:List Rand) (E:Env) (fr:Fr) (H:Heap) (id:Nat):Option (PV×Heap):=match qa7 H (qcG (krd E fr) args) with
  |some (ds,os)=>match E.val f ds with
   |some (.d (.l k es _),true)=>some (.r id k 0 es.length false,(if os.isEmpty then H else frz H os).put id (some (.sl k 0 es)))
   | _=>none
  |none=>none
def qn4 (f:Nat) (args:List Rand) (E:Env) (fr:Fr) (H:Heap) (id:Nat):Option (PV×Heap):=E.ref f (qcG (krd E fr) args) H
def qwm (mode f:Nat) (args:List Rand):Env→Fr→Heap→Nat→Option (PV×Heap) := @Nat.rec (fun _=>Env→Fr→Heap→Nat→Option (PV×Heap)) (qog f args) (fun m _ => @Nat.rec (fun _=>Env→Fr→Heap→Nat→Option (PV×Heap)) (qn7 f args) (fun _ _=>qn4 f args) m) mode
def qpi (x:Rand) (args:List Rand) (E:Env) (fr:Fr) (H:Heap) (id:Nat):Option (PV×Heap):=match krd E fr x with
  | .f n caps=>match (if caps.isEmpty then qal (qcG (krd E fr) args) else none) with
   |some ds=>match E.val n ds with
    |some (r,_)=>some (r,H)
    |none=>none
   |none=>E.ref n (qcG (krd E fr) args++caps) H
  | .m n firsts=>match qal (firsts++qcG (krd E fr) args) with
   |some ds=>match E.val n ds with
    |some (r,_)=>some (r,H)
    |none=>none
   |none=>E.ref n (firsts++qcG (krd E fr) args) H
  | .h o=>E.yld o (qcG (krd E fr) args) H
  | _=>none
def qo9 (x:Rand) (i:Nat) (E:Env) (fr:Fr) (H:Heap) (id:Nat):Option (PV×Heap):=match krd E fr x with
  | .t vs=>opt vs[i]? H
  | _=>none
def qop (f:Nat) (caps:List Rand) (E:Env) (fr:Fr) (H:Heap) (id:Nat):Option (PV×Heap):=some (.f f (qcG (krd E fr) caps),H)
def qnD (f:Nat) (caps:List Rand) (E:Env) (fr:Fr) (H:Heap) (id:Nat):Option (PV×Heap):=some (.m f (qcG (krd E fr) caps),H)
def qoV (p:Nat) (args:List Rand) (E:Env) (fr:Fr) (H:Heap) (id:Nat):Option (PV×Heap):=opt (qfL p (qcG (krd E fr) args)) H
def qo0 (x:Rand) (E:Env) (fr:Fr) (H:Heap) (id:Nat):Option (PV×Heap):=match krd E fr x with
  | .p o i c=>some (.p o i c,H)
  | .q v k c=>some (.q v k c,H)
  | .f n cs=>some (.f n cs,H)
  | _=>none
def qqd (k:K) (bytes:Nat) (z:DV) (len:Rand) (cap:Rand) (E:Env) (fr:Fr) (H:Heap) (id:Nat):Option (PV×Heap):=match asI (krd E fr len),asI (krd E fr cap) with
  |some n,some c=>if 0≤n∧n≤c∧c*bytes≤2^47 then some (.r id k 0 n.toNat false,H.put id (some (.sl k 0 (List.replicate n.toNat z)))) else none
  | _,_=>none
def qnt (mx:Bool) (args:List Rand) (E:Env) (fr:Fr) (H:Heap) (id:Nat):Option (PV×Heap):=match qcG (krd E fr) args with
  |v::r=>opt (mmA mx v r) H
  | []=>none
def qpu (k:K) (x:Rand) (y:Rand) (E:Env) (fr:Fr) (H:Heap) (id:Nat):Option (PV×Heap):=match krd E fr x with
  | .r o k' off len _=>match qgx H o,qbM H k (krd E fr y) with
   |some (.sl k'' ro es),some ys =>
    if K.eq k k'&&K.eq k k''&&decide (off+len≤es.length)&&decide (ro≤off) then
     let n:=min ys.length len
     some (.d (.i .i64 n),H.put o (some (.sl k ro (putAt es off (ys.take n)))))
    else none
   | _,_=>none
  | _=>none
def qnB (k:K) (z:DV) (x:Rand) (E:Env) (fr:Fr) (H:Heap) (id:Nat):Option (PV×Heap):=match krd E fr x with
  | .r o k' off len _=>match qgx H o with
   |some (.sl k'' ro es) =>
    if K.eq k k'&&K.eq k k''&&decide (off+len≤es.length)&&decide (ro≤off) then some (.t [],H.put o (some (.sl k ro (putAt es off (List.replicate len z))))) else none
   | _=>none
  | .d (.l _ [] _)=>some (.t [],H)
  | _=>none
def qnS (t:Nat) (x:Rand) (E:Env) (fr:Fr) (H:Heap) (id:Nat):Option (PV×Heap):=match pur H (krd E fr x) with
  |some (v,os)=>some (.d (.ifc t v),frz H os)
  |none=>some (.w t (krd E fr x),H)
def qqf (t:Nat) (z:DV) (ok:Bool) (x:Rand) (E:Env) (fr:Fr) (H:Heap) (id:Nat):Option (PV×Heap):=match krd E fr x with
  | .d (.ifc u v)=>if u=t then some (if ok then .t [.d v,.d (.b true)] else .d v,H) else if ok then some (.t [.d z,.d (.b false)],H) else none
  | .w u v=>if u=t then some (if ok then .t [v,.d (.b true)] else v,H) else if ok then some (.t [.d z,.d (.b false)],H) else none
  | .d .ni=>if ok then some (.t [.d z,.d (.b false)],H) else none
  | _=>none
def qpH (tab:List (Nat×Nat×Nat)) (x:Rand) (args:List Rand) (E:Env) (fr:Fr) (H:Heap) (id:Nat):Option (PV×Heap):=match krd E fr x with
  | .d (.ifc u v)=>match qii u tab with
   |some (0,f)=>match qa7 H (qcG (krd E fr) args) with
    |some (ds,os)=>match E.val f (v::ds) with
     |some (r,_)=>some (r,if os.isEmpty||r.scal then H else frz H os)
     |none=>none
    |none=>none
   |some (_,f)=>E.ref f (.d v::qcG (krd E fr) args) H
   |none=>none
  | _=>none
def qnZ  (E:Env) (fr:Fr) (H:Heap) (id:Nat):Option (PV×Heap):=some (.h id,H.put id (some (.mp [])))
def qo5 (ky:Ky) (z:DV) (ok:Bool) (x:Rand) (i:Rand) (E:Env) (fr:Fr) (H:Heap) (id:Nat):Option (PV×Heap):=match krd E fr i,krd E fr x with
  | .d k,.h o=>if qft ky k then match qgx H o with
   |some (.mp es)=>match qcs k es with
    |some r=>some (if ok then .t [.d (r.getD z),.d (.b r.isSome)] else .d (r.getD z),H)
    |none=>none
   | _=>none
   else none
  | _,_=>none
def qoc (ky:Ky) (x:Rand) (i:Rand) (v:Rand) (E:Env) (fr:Fr) (H:Heap) (id:Nat):Option (PV×Heap):=match krd E fr i,krd E fr x,pur H (krd E fr v) with
  | .d k,.h o,some (xv,os)=>if qft ky k then match qgx H o with
   |some (.mp es)=>match qdS k xv es with
    |some es'=>some (.u,(frz H os).put o (some (.mp es')))
    |none=>none
   | _=>none
   else none
  | _,_,_=>none
def qoo (ky:Ky) (x:Rand) (i:Rand) (E:Env) (fr:Fr) (H:Heap) (id:Nat):Option (PV×Heap):=match krd E fr i,krd E fr x with
  | .d k,.h o=>if qft ky k then match qgx H o with
   |some (.mp es)=>match qnU k es with
    |some es'=>some (.u,H.put o (some (.mp es')))
    |none=>none
   | _=>none
   else none
  | _,_=>none
def qp2 (x:Rand) (E:Env) (fr:Fr) (H:Heap) (id:Nat):Option (PV×Heap):=match krd E fr x with
  | .h o=>match qgx H o with
   |some (.mp es)=>some (.d (.i .i64 es.length),H)
   | _=>none
  | _=>none
def qqm (x:Rand) (E:Env) (fr:Fr) (H:Heap) (id:Nat):Option (PV×Heap):=match krd E fr x with
  | .d (.s l)=>some (.h id,H.put id (some (.si l 0)))
  | _=>none
def qqg (x:Rand) (E:Env) (fr:Fr) (H:Heap) (id:Nat):Option (PV×Heap):=match krd E fr x with
  | .h o=>match qgx H o with
   |some (.si l pos) =>
    if pos<l.length then
     let c:=Utf8.decode ⟨l.toArray⟩ pos
     some (.t [.d (.b true),.d (.i .i64 pos),.d (.i .i32 c.1)],H.put o (some (.si l (pos+c.2))))
    else some (.t [.d (.b false)],H)
   | _=>none
  | _=>none
def qpQ (x:Rand) (E:Env) (fr:Fr) (H:Heap) (id:Nat):Option (PV×Heap):=match krd E fr x with
  | .d (.s _)=>none
  |y=>match qbM H none y with
   |some es=>match qiV es with|some l=>some (.d (.s l),H)|none=>none
   |none=>none
def qpO (x:Rand) (E:Env) (fr:Fr) (H:Heap) (id:Nat):Option (PV×Heap):=match krd E fr x with
  | .d (.s l)=>some (.d (.l none (bytesOf l) false),H)
  | _=>none
def qpk (x:Rand) (y:Rand) (E:Env) (fr:Fr) (H:Heap) (id:Nat):Option (PV×Heap):=match krd E fr x,krd E fr y with
  | .f n caps,.u=>some (.g (.f n caps),H)
  | _,_=>none
def qqj  (E:Env) (fr:Fr) (H:Heap) (id:Nat):Option (PV×Heap):=none
def kop (op:IOp):Env→Fr→Heap→Nat→Option (PV×Heap) := @IOp.rec (fun _=>Env→Fr→Heap→Nat→Option (PV×Heap)) qqB qn6 qnA qpD qoz qoZ qox qpS qpM qpP qpw qov qqz qqe qnP qno qpG qnu qpd qoJ qoU qoM qp4 qpy qwm qpi qo9 qop qnD qoV qo0 qqd qnt qpu qnB qnS qqf qpH qnZ qo5 qoc qoo qp2 qqm qqg qpQ qpO qpk qqj op
theorem qv7 (op:IOp) (E:Env) (fr:Fr) (H:Heap) (id:Nat):kop op E fr H id=qaa E (rd E fr) H id op:=by
 rw[←qsj];have ko:qgx=Heap.obj:=by funext H o;exact qy6 H o
 cases op with
 |mov x=>show qqB x E fr H id=_;simp only[qqB,qaa,qaO,ko,qa0,qa1,qaW,qaY,qaR,qaZ]<;>rfl
 |pick c a b=>show qn6 c a b E fr H id=_;simp only[qn6,qaa,qaO,ko,qa0,qa1,qaW,qaY,qaR,qaZ]<;>rfl
 |alloc k z=>show qnA k z E fr H id=_;simp only[qnA,qaa,qaO,ko,qa0,qa1,qaW,qaY,qaR,qaZ]<;>rfl
 |box k x=>show qpD k x E fr H id=_;simp only[qpD,qaa,qaO,ko,qa0,qa1,qaW,qaY,qaR,qaZ]<;>rfl
 |agg z parts=>show qoz z parts E fr H id=_;simp only[qoz,qaa,qaO,ko,qa0,qa1,qaW,qaY,qaR,qaZ]<;>rfl
 |bsl k z len parts=>show qoZ k z len parts E fr H id=_;simp only[qoZ,qaa,qaO,ko,qa0,qa1,qaW,qaY,qaR,qaZ]<;>rfl
 |load k x=>show qox k x E fr H id=_;simp only[qox,qaa,qaO,ko,qa0,qa1,qaW,qaY,qaR,qaZ]<;>rfl
 |store k x y=>show qpS k x y E fr H id=_;simp only[qpS,qaa,qaO,ko,qa0,qa1,qaW,qaY,qaR,qaZ]<;>rfl
 |bin op x y=>show qpM op x y E fr H id=_;simp only[qpM,qaa,qaO,ko,qa0,qa1,qaW,qaY,qaR,qaZ]<;>rfl
 |eqv neg n x y=>show qpP neg n x y E fr H id=_;simp only[qpP,qaa,qaO,ko,qa0,qa1,qaW,qaY,qaR,qaZ]<;>rfl
 |eqb neg x y=>show qpw neg x y E fr H id=_;simp only[qpw,qaa,qaO,ko,qa0,qa1,qaW,qaY,qaR,qaZ]<;>rfl
 |isnil neg kd x=>show qov neg kd x E fr H id=_;simp only[qov,qaa,qaO,ko,qa0,qa1,qaW,qaY,qaR,qaZ]<;>rfl
 |un op x=>show qqz op x E fr H id=_;simp only[qqz,qaa,qaO,ko,qa0,qa1,qaW,qaY,qaR,qaZ]<;>rfl
 |conv k x=>show qqe k x E fr H id=_;simp only[qqe,qaa,qaO,ko,qa0,qa1,qaW,qaY,qaR,qaZ]<;>rfl
 |slS x lo hi=>show qnP x lo hi E fr H id=_;simp only[qnP,qaa,qaO,ko,qa0,qa1,qaW,qaY,qaR,qaZ]<;>rfl
 |sl k x lo hi mx=>show qno k x lo hi mx E fr H id=_;simp only[qno,qaa,qaO,ko,qa0,qa1,qaW,qaY,qaR,qaZ]<;>rfl
 |faddr off x=>show qpG off x E fr H id=_;simp only[qpG,qaa,qaO,ko,qa0,qa1,qaW,qaY,qaR,qaZ]<;>rfl
 |field off k x=>show qnu off k x E fr H id=_;simp only[qnu,qaa,qaO,ko,qa0,qa1,qaW,qaY,qaR,qaZ]<;>rfl
 |iaddr k x i=>show qpd k x i E fr H id=_;simp only[qpd,qaa,qaO,ko,qa0,qa1,qaW,qaY,qaR,qaZ]<;>rfl
 |iaddrA len k x i=>show qoJ len k x i E fr H id=_;simp only[qoJ,qaa,qaO,ko,qa0,qa1,qaW,qaY,qaR,qaZ]<;>rfl
 |idxS x i=>show qoU x i E fr H id=_;simp only[qoU,qaa,qaO,ko,qa0,qa1,qaW,qaY,qaR,qaZ]<;>rfl
 |idxA len k x i=>show qoM len k x i E fr H id=_;simp only[qoM,qaa,qaO,ko,qa0,qa1,qaW,qaY,qaR,qaZ]<;>rfl
 |len str x=>show qp4 str x E fr H id=_;simp only[qp4,qaa,qaO,ko,qa0,qa1,qaW,qaY,qaR,qaZ]<;>rfl
 |app k bytes x y=>show qpy k bytes x y E fr H id=_;simp only[qpy,qaa,qaO,ko,qa0,qa1,qaW,qaY,qaR,qaZ]<;>rfl
 |call m f args=>match m with
  | 0=>show qog f args E fr H id=_;simp only[qog,qaa,qaO,ko]<;>rfl
  | 1=>show qn7 f args E fr H id=_;simp only[qn7,qaa,qaO,ko]<;>rfl
  |m+2=>show qn4 f args E fr H id=_;simp only[qn4,qaa,qaO,ko]<;>rfl
 |callv x args=>show qpi x args E fr H id=_;simp only[qpi,qaa,qaO,ko,qa0,qa1,qaW,qaY,qaR,qaZ]<;>rfl
 |ext x i=>show qo9 x i E fr H id=_;simp only[qo9,qaa,qaO,ko,qa0,qa1,qaW,qaY,qaR,qaZ]<;>rfl
 |mkf f caps=>show qop f caps E fr H id=_;simp only[qop,qaa,qaO,ko,qa0,qa1,qaW,qaY,qaR,qaZ]<;>rfl
 |mkm f caps=>show qnD f caps E fr H id=_;simp only[qnD,qaa,qaO,ko,qa0,qa1,qaW,qaY,qaR,qaZ]<;>rfl
 |prim p args=>show qoV p args E fr H id=_;simp only[qoV,qaa,qaO,ko,qa0,qa1,qaW,qaY,qaR,qaZ]<;>rfl
 |nilck x=>show qo0 x E fr H id=_;simp only[qo0,qaa,qaO,ko,qa0,qa1,qaW,qaY,qaR,qaZ]<;>rfl
 |mksl k bytes z len cap=>show qqd k bytes z len cap E fr H id=_;simp only[qqd,qaa,qaO,ko,qa0,qa1,qaW,qaY,qaR,qaZ]<;>rfl
 |minmax mx args=>show qnt mx args E fr H id=_;simp only[qnt,qaa,qaO,ko,qa0,qa1,qaW,qaY,qaR,qaZ]<;>rfl
 |copy k x y=>show qpu k x y E fr H id=_;simp only[qpu,qaa,qaO,ko,qa0,qa1,qaW,qaY,qaR,qaZ]<;>rfl
 |clr k z x=>show qnB k z x E fr H id=_;simp only[qnB,qaa,qaO,ko,qa0,qa1,qaW,qaY,qaR,qaZ]<;>rfl
 |mkif t x=>show qnS t x E fr H id=_;simp only[qnS,qaa,qaO,ko,qa0,qa1,qaW,qaY,qaR,qaZ]<;>rfl
 |tas t z ok x=>show qqf t z ok x E fr H id=_;simp only[qqf,qaa,qaO,ko,qa0,qa1,qaW,qaY,qaR,qaZ]<;>rfl
 |invk tab x args=>show qpH tab x args E fr H id=_;simp only[qpH,qaa,qaO,ko,qa0,qa1,qaW,qaY,qaR,qaZ]<;>rfl
 |mkmap  => show qnZ  E fr H id=_;simp only[qnZ,qaa,qaO,ko,qa0,qa1,qaW,qaY,qaR,qaZ]<;>rfl
 |mget ky z ok x i=>show qo5 ky z ok x i E fr H id=_;simp only[qo5,qaa,qaO,ko,qa0,qa1,qaW,qaY,qaR,qaZ]<;>rfl
 |mset ky x i v=>show qoc ky x i v E fr H id=_;simp only[qoc,qaa,qaO,ko,qa0,qa1,qaW,qaY,qaR,qaZ]<;>rfl
 |mdel ky x i=>show qoo ky x i E fr H id=_;simp only[qoo,qaa,qaO,ko,qa0,qa1,qaW,qaY,qaR,qaZ]<;>rfl
 |mlen x=>show qp2 x E fr H id=_;simp only[qp2,qaa,qaO,ko,qa0,qa1,qaW,qaY,qaR,qaZ]<;>rfl
 |rngS x=>show qqm x E fr H id=_;simp only[qqm,qaa,qaO,ko,qa0,qa1,qaW,qaY,qaR,qaZ]<;>rfl
 |nxt x=>show qqg x E fr H id=_;simp only[qqg,qaa,qaO,ko,qa0,qa1,qaW,qaY,qaR,qaZ]<;>rfl
 |sb x=>show qpQ x E fr H id=_;simp only[qpQ,qaa,qaO,ko,qa0,qa1,qaW,qaY,qaR,qaZ]<;>rfl
 |bs x=>show qpO x E fr H id=_;simp only[qpO,qaa,qaO,ko,qa0,qa1,qaW,qaY,qaR,qaZ]<;>rfl
 |dfr x y=>show qpk x y E fr H id=_;simp only[qpk,qaa,qaO,ko,qa0,qa1,qaW,qaY,qaR,qaZ]<;>rfl
 |bad  => show qqj  E fr H id=_;simp only[qqj,qaa,qaO,ko,qa0,qa1,qaW,qaY,qaR,qaZ]<;>rfl
def qmq (d:Option Nat) (fr:Fr) (v:PV):Fr := @Option.rec Nat (fun _=>Fr) fr (fun t=>qnn fr t v) d
abbrev KCf:=Env→Nat→Fr→Heap→Option St
def qlb (op:IOp) (id:Nat):Nat := @Bool.rec (fun _=>Nat) id (Nat.succ id) op.adds
def kgo (dst:Option Nat) (op:IOp) (ih:KCf) (E:Env) (id:Nat) (fr:Fr) (H:Heap):Option St := @Option.rec (PV×Heap) (fun _=>Option St) none (fun p => @Prod.rec PV Heap (fun _=>Option St) (fun v H'=>ih E (qlb op id) (qmq dst fr v) H') p) (kop op E fr H id)
def kno (dst:Option Nat) (op:IOp) (ih:KCf) (E:Env) (id:Nat) (fr:Fr) (H:Heap):Option St:=ih E (qlb op id) (qmq dst fr (.t [])) H
def quQ (v:PV) (want:Bool) (go no:Option St):Option St:=match v with
 | .d (.b b)=>if b==want then go else no
 | .t []=>no
 | _=>none
def qnX (dst:Option Nat) (op:IOp) (g:Option (Nat×Bool)) (ih:KCf) (E:Env) (id:Nat) (fr:Fr) (H:Heap):Option St :=
 @Option.rec (Nat×Bool) (fun _=>Option St) (kgo dst op ih E id fr H) (fun p => @Prod.rec Nat Bool (fun _=>Option St) (fun t want=>quQ (qk0 fr t) want (kgo dst op ih E id fr H) (kno dst op ih E id fr H)) p) g
def qjk (l:List IOper):KCf := @List.rec IOper (fun _=>KCf) (fun _ _ fr H=>some ⟨fr,H⟩) (fun o _ ih => @IOper.rec (fun _=>KCf) (fun dst op g=>qnX dst op g ih) o) l
def qmv (d:Option Nat) (fr:Fr) (v:PV):Fr:=match d with|some t=>fr.set t v|none=>fr
theorem qrK (E:Env) : ∀(l:List IOper) (id:Nat) (fr:Fr) (H:Heap),qjk l E id fr H=qaL E l id ⟨fr,H⟩
 | [],id,fr,H=>rfl
 | ⟨dst,op,g⟩::r,id,fr,H=>by
  have ih:=qrK E r
  have hadd:qlb op id=if op.adds then id+1 else id:=by unfold qlb;cases op.adds<;>rfl
  have hd : ∀v,qmq dst fr v=qmv dst fr v:=by intro v;cases dst<;>simp[qmq,qvh,qmv]
  have hgo:kgo dst op (qjk r) E id fr H=match qaa E (rd E fr) H id op with|some (v,H')=>qaL E r (if op.adds then id+1 else id) ⟨qmv dst fr v,H'⟩|none=>none:=by
   unfold kgo;rw[qv7];cases h:qaa E (rd E fr) H id op with
   |none=>rfl
   |some p=>obtain⟨v,H'⟩:=p;show qjk r E _ _ _=_;rw[ih,hadd,hd]
  have hno:kno dst op (qjk r) E id fr H=qaL E r (if op.adds then id+1 else id) ⟨qmv dst fr (.t []),H⟩:=by
   unfold kno;rw[ih,hadd,hd]
  show qnX dst op g (qjk r) E id fr H=_
  unfold qnX;rw[qaL,hgo,hno];cases g with
  |none=>cases dst<;>rfl
  |some p =>
   obtain⟨t,want⟩:=p;show quQ (qk0 fr t) want _ _=_
   rw[qnq];cases dst<;>rfl
def qmu (ops:List IOper) (kill:List Nat) (E:Env) (fr:Fr) (H:Heap):Option St := @Option.rec St (fun _=>Option St) none (fun s => @St.rec (fun _=>Option St) (fun fr' H'=>some ⟨qkO kill fr',H'⟩) s) (qjk ops E (qhh H) fr (qjG H (qnY none (qan ops) [])))
theorem qEB (ops:List IOper) (kill:List Nat) (E:Env) (fr:Fr) (H:Heap):qmu ops kill E fr H=qcy E ops kill ⟨fr,H⟩:=by
 unfold qmu qcy;rw[qrK,qkT,qn0,qtS,List.append_nil];cases qaL E ops H.length ⟨fr,H++List.replicate (qan ops) none⟩ with
 |none=>rfl
 |some s=>obtain⟨fr',H'⟩:=s;show some _=_;rw[qve]
abbrev KR:=Env→((St→Res)→St→Res)→Nat→Fr→Heap→Res
def qq6 (r:Res) (f:Fr→Heap→Res):Res := @Option.rec (Ex×St) (fun _=>Res) none (fun p => @Prod.rec Ex St (fun _=>Res) (fun e s => @Ex.rec (fun _=>Res) (@St.rec (fun _=>Res) f s) (fun j=>some (.exit j,s)) (some (.ret,s)) e) p) r
def qvJ:KR:=fun _ _ _ fr H=>some (.norm,⟨fr,H⟩)
def qAi (ops:List IOper) (kill:List Nat):KR:=fun E _ _ fr H => @Option.rec St (fun _=>Res) none (fun s=>some (.norm,s)) (qmu ops kill E fr H)
def qzx (ops:List IOper) (bf kill:List Nat):KR:=fun E _ _ fr H=>match qfJ E ops bf kill ⟨fr,H⟩ with|some s'=>some (.norm,s')|none=>none
def qyi (_ _:PC) (a b:KR):KR:=fun E lp base fr H=>qq6 (a E lp base fr H) fun fr H=>b E lp base fr H
def qnR (c:Rand) (_ _:PC) (x y:KR):KR:=fun E lp base fr H=>match krd E fr c with
 | .d (.b true)=>x E lp base fr H
 | .d (.b false)=>y E lp base fr H
 | _=>none
def qtE (id:Nat) (r:Res):Res := @Option.rec (Ex×St) (fun _=>Res) none (fun p => @Prod.rec Ex St (fun _=>Res) (fun e s => @Ex.rec (fun _=>Res) (some (.norm,s)) (fun j => @Bool.rec (fun _=>Res) (some (.exit j,s)) (some (.norm,s)) (Nat.beq j id)) (some (.ret,s)) e) p) r
def qDd (id:Nat) (_:PC) (x:KR):KR:=fun E lp base fr H=>qtE id (x E lp base fr H)
def qup (live:List Nat) (x:KR) (E:Env) (lp:(St→Res)→St→Res) (base:Nat) (s:St):Res := @St.rec (fun _=>Res) (fun fr H=>x E lp base fr H) (gc live base s)
def qzC (live:List Nat) (_:PC) (x:KR):KR:=fun E lp base fr H=>lp (qup live x E lp base) ⟨fr,H⟩
def qwT (f:Rand) (g:Nat) (ps live:List Nat) (a x:PC) (_ _:KR):KR:=fun E lp base fr H=>qaj E lp base (.rng f g ps live a x) ⟨fr,H⟩
def qx6 (id:Nat):KR:=fun _ _ _ fr H=>some (.exit id,⟨fr,H⟩)
def qD3:KR:=fun _ _ _ fr H=>some (.ret,⟨fr,H⟩)
def qES:KR:=fun _ _ _ _ _=>none
def kev (c:PC):KR := @PC.rec (fun _=>KR) qvJ qAi qzx qyi qnR qDd qzC qwT qx6 qD3 qES c
theorem qym (E:Env) (lp:(St→Res)→St→Res) (base:Nat) : ∀(c:PC) (fr:Fr) (H:Heap),kev c E lp base fr H=qaj E lp base c ⟨fr,H⟩:=by
 intro c;induction c with
 |skip=>intro fr H;rfl
 |reg ops kill =>
  intro fr H;show @Option.rec St (fun _=>Res) none (fun s=>some (.norm,s)) (qmu ops kill E fr H)=_
  rw[qEB,qaj];cases qcy E ops kill ⟨fr,H⟩<;>rfl
 |regD ops bf kill=>intro fr H;rfl
 |seq a b iha ihb =>
  intro fr H;show qq6 (kev a E lp base fr H) (fun fr H=>kev b E lp base fr H)=_
  rw[iha,qaj];cases qaj E lp base a ⟨fr,H⟩ with
  |none=>rfl
  |some p =>
   obtain⟨e,s⟩:=p;cases e with
   |norm=>obtain⟨fr',H'⟩:=s;exact ihb fr' H'
   |exit j=>rfl
   |ret=>rfl
 |cond c x y ihx ihy =>
  intro fr H;show qnR c x y (kev x) (kev y) E lp base fr H=_
  unfold qnR;rw[qsj,qaj,ihx,ihy];rfl
 |block id x ih =>
  intro fr H;show qtE id (kev x E lp base fr H)=_
  rw[ih,qaj];cases qaj E lp base x ⟨fr,H⟩ with
  |none=>rfl
  |some p =>
   obtain⟨e,s⟩:=p;cases e with
   |norm=>rfl
   |exit j =>
    show @Bool.rec (fun _=>Res) (some (.exit j,s)) (some (.norm,s)) (Nat.beq j id)=if j==id then _ else _
    have:(j==id)=Nat.beq j id:=by by_cases h:j=id; · { subst h;rw[Nat.beq_refl];simp }; · { rw[qkH h];simpa using h }
    rw[this];cases Nat.beq j id<;>rfl
   |ret=>rfl
 |loop live x ih =>
  intro fr H;show lp (qup live (kev x) E lp base) ⟨fr,H⟩=_
  rw[qaj];congr 1
  funext s
  exact ih _ _
 |rng f g ps live a x iha ihx=>intro fr H;rfl
 |exit id=>intro fr H;rfl
 |ret=>intro fr H;rfl
 |bad=>intro fr H;rfl
def klp (n:Nat):(St→Res)→St→Res := @Nat.rec (fun _=>(St→Res)→St→Res) (fun _ _=>none) (fun _ ih f s => @Option.rec (Ex×St) (fun _=>Res) none (fun p => @Prod.rec Ex St (fun _=>Res) (fun e s' => @Ex.rec (fun _=>Res) (ih f s') (fun j=>some (.exit j,s')) (some (.ret,s')) e) p) (f s)) n
theorem qqu : ∀n,klp n=lpN n
 | 0=>rfl
 |n+1=>by
  funext f s
  have ih:=qqu n
  show @Option.rec (Ex×St) (fun _=>Res) none (fun p => @Prod.rec Ex St (fun _=>Res) (fun e s' => @Ex.rec (fun _=>Res) (klp n f s') (fun j=>some (.exit j,s')) (some (.ret,s')) e) p) (f s)=_
  rw[ih,lpN];cases f s with
  |none=>rfl
  |some p=>obtain⟨e,s'⟩:=p;cases e<;>rfl
def qsc (E:Env) (rs:List RV) (s:St):Option (PV×Heap):=match runG E (qay s.fr) s.H with
   |some H'=>match results s.fr H' rs with
    |some vs=>some (qez vs,H')
    |none=>none
   |none=>none
def qny (E:Env) (rs:List RV) (r:Res):Option (PV×Heap) := @Option.rec (Ex×St) (fun _=>Option (PV×Heap)) none (fun p => @Prod.rec Ex St (fun _=>Option (PV×Heap)) (fun e s => @Ex.rec (fun _=>Option (PV×Heap)) (qsc E rs s) (fun _=>none) (qsc E rs s) e) p) r
def qmA:List PV→Nat→Fr:=fun l => @List.rec PV (fun _=>Nat→Fr) (fun _=>[]) (fun v _ ih j=>qjG (ih (Nat.succ j)) [(j,v)]) l
theorem quh : ∀(l:List PV) (j:Nat),qmA l j=Fr.ofArgs j l
 | [],j=>rfl
 |v::r,j=>by show qjG (qmA r (j+1)) [(j,v)]=_;rw[qn0,quh r,Fr.ofArgs]
def kfn (E:Env) (lp:(St→Res)→St→Res) (F:PF) (args:List PV) (H:Heap):Option (PV×Heap) := @PF.rec (fun _=>Option (PV×Heap)) (fun nargs rs body => @Bool.rec (fun _=>Option (PV×Heap)) none (qny E rs (kev body E lp (qhh H) (qmA args 0) H)) (Nat.beq (qhh args) nargs)) F
theorem qum (E:Env) (lp:(St→Res)→St→Res) (F:PF) (args:List PV) (H:Heap):kfn E lp F args H=qbV E lp F args H:=by
 obtain⟨nargs,rs,body⟩:=F;show @Bool.rec (fun _=>Option (PV×Heap)) none (qny E rs (kev body E lp (qhh H) (qmA args 0) H)) (Nat.beq (qhh args) nargs)=_
 rw[qkT,qkT,qym,quh];unfold qbV;by_cases h:args.length=nargs
 ·rw[if_pos h,h,Nat.beq_refl];show qny E rs (qaj E lp H.length body ⟨Fr.ofArgs 0 args,H⟩)=_
  cases qaj E lp H.length body ⟨Fr.ofArgs 0 args,H⟩ with
  |none=>rfl
  |some p=>obtain⟨e,s⟩:=p;cases e<;>rfl
 ·rw[if_neg h,qkH h]
abbrev KY:=Nat→List PV→Heap→Option (PV×Heap)
structure KP where
 it:KY→KY
 val:Nat→List DV→Option (PV×Bool)
def qoq (E:Env) (lp:(St→Res)→St→Res) (args:List PV) (H:Heap) (F:PF):Option (PV×Heap) := @Option.rec (PV×Heap) (fun _=>Option (PV×Heap)) none (fun p => @Prod.rec PV Heap (fun _=>Option (PV×Heap)) (fun v H'=>some (gcV (qhh H) v H')) p) (kfn E lp F args H)
def kit (T:Tab) (n:Nat) (P:KP) (Y:KY) (f:Nat) (args:List PV) (H:Heap):Option (PV×Heap) := @Option.rec PF (fun _=>Option (PV×Heap)) (T.R f args H) (qoq ⟨T.G,P.it noY,P.val,Y,P.it,T.dok⟩ (klp n) args H) (T.F f)
def qnJ (E:Env) (lp:(St→Res)→St→Res) (args:List DV) (F:PF):Option (PV×Bool) := @Option.rec (PV×Heap) (fun _=>Option (PV×Bool)) none (fun p => @Prod.rec PV Heap (fun _=>Option (PV×Bool)) (fun v H'=>purT H' v) p) (kfn E lp F (qcG .d args) [])
def qnN (T:Tab) (n:Nat) (P:KP) (f:Nat) (args:List DV):Option (PV×Bool) := @Option.rec PF (fun _=>Option (PV×Bool)) (T.X f args) (qnJ ⟨T.G,P.it noY,P.val,noY,P.it,T.dok⟩ (klp n) args) (T.F f)
def kN (T:Tab) (n:Nat):KP := @Nat.rec (fun _=>KP) ⟨fun _ _ _ _=>none,fun _ _=>none⟩ (fun n P=>⟨kit T n P,qnN T n P⟩) n
theorem qoh (T:Tab) : ∀n,(kN T n).it=itN T n∧(kN T n).val=qcL T n
 | 0=>⟨by funext Y f a H;rw[itN];rfl,by funext f a;rw[qcL];rfl⟩
 |n+1=>by
  obtain⟨h1,h2⟩:=qoh T n;constructor
  ·funext Y f a H
   show kit T n (kN T n) Y f a H=_
   rw[qf6];unfold kit;cases T.F f with
   |none=>rfl
   |some F =>
    show qoq _ (klp n) a H F=_
    unfold qoq;rw[h1,h2,qqu,qum,qkT];show @Option.rec (PV×Heap) (fun _=>Option (PV×Heap)) none _ (qbV (envY T n Y) (lpN n) F a H)=_
    dsimp only
    cases qbV (envY T n Y) (lpN n) F a H with
    |none=>rfl
    |some p=>rfl
  ·funext f a
   show qnN T n (kN T n) f a=_
   rw[qhn];unfold qnN;cases T.F f with
   |none=>rfl
   |some F =>
    show qnJ _ (klp n) a F=_
    unfold qnJ;rw[h1,h2,qqu,qum,qaO];show @Option.rec (PV×Heap) (fun _=>Option (PV×Bool)) none _ (qbV (qcB T n) (lpN n) F (a.map .d) [])=_
    dsimp only
    cases qbV (qcB T n) (lpN n) F (a.map .d) [] with
    |none=>rfl
    |some p=>rfl
theorem qio {T:Tab} {f:Nat} {args:List DV} {r:PV×Bool} (n:Nat) (h:(kN T n).val f args=some r):T.val f args=some r:=(qi5 T f args r).2 ⟨n,by rw[←(qoh T n).2];exact h⟩
end
end Go.Sim

