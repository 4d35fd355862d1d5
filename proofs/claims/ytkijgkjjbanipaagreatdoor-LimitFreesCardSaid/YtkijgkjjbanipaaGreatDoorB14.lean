/- Part 14 of the proof: CbFast. -/
import Derived.Test.YtkijgkjjbanipaaGreatDoorB3
namespace Go.Sim
noncomputable section
def qk0 (fr:Fr) (t:Nat):PV := @List.rec (Nat×PV) (fun _=>PV) .u (fun p _ ih => @Prod.rec Nat PV (fun _=>PV) (fun j v => @Bool.rec (fun _=>PV) ih v (Nat.beq j t)) p) fr
theorem qkZ {j t:Nat} (h : ¬j=t):Nat.beq j t=false:=by
 cases e:Nat.beq j t with
 |false=>rfl
 |true=>exact absurd (Nat.eq_of_beq_eq_true e) h
theorem qoh : ∀fr t,qk0 fr t=Fr.get fr t
 | [],t=>rfl
 | (j,v)::r,t=>by
  have ih:=qoh r t
  show @Bool.rec (fun _=>PV) (qk0 r t) v (Nat.beq j t)=_
  rw[ih,Fr.get];by_cases h:j=t
  ·subst h;rw[if_pos rfl,Nat.beq_refl]
  ·rw[if_neg h,qkZ h]
def qoa (fr:Fr) (t:Nat) (v:PV):Fr := @List.rec (Nat×PV) (fun _=>Fr) [(t,v)] (fun p r ih => @Prod.rec Nat PV (fun _=>Fr) (fun j x => @Bool.rec (fun _=>Fr) (@Bool.rec (fun _=>Fr) ((j,x)::ih) ((t,v)::(j,x)::r) (Nat.ble (Nat.succ j) t)) ((t,v)::r) (Nat.beq j t)) p) fr
theorem qu6 : ∀fr t v,qoa fr t v=Fr.set fr t v
 | [],t,v=>rfl
 | (j,x)::r,t,v=>by
  have ih:=qu6 r t v
  show @Bool.rec (fun _=>Fr) (@Bool.rec (fun _=>Fr) ((j,x)::qoa r t v) ((t,v)::(j,x)::r) (Nat.ble (Nat.succ j) t)) ((t,v)::r) (Nat.beq j t)=_
  rw[ih,Fr.set];by_cases h:j=t
  ·subst h;rw[if_pos rfl,Nat.beq_refl]
  ·rw[if_neg h,qkZ h];show @Bool.rec (fun _=>Fr) _ _ (Nat.ble (Nat.succ j) t)=_
   by_cases h2:j<t
   ·rw[if_pos h2,Nat.ble_eq_true_of_le h2]
   ·rw[if_neg h2,Bool.eq_false_iff.2 (fun e=>h2 (Nat.le_of_ble_eq_true e))]
def qnv (l:List Nat) (j:Nat):Bool := @List.rec Nat (fun _=>Bool) false (fun x _ ih => @Bool.rec (fun _=>Bool) ih true (Nat.beq x j)) l
theorem qvH : ∀l j,qnv l j=l.contains j
 | [],j=>rfl
 |x::r,j=>by
  have ih:=qvH r j
  show @Bool.rec (fun _=>Bool) (qnv r j) true (Nat.beq x j)=_
  rw[ih,List.contains_cons];by_cases h:x=j
  ·subst h;rw[Nat.beq_refl];simp
  ·rw[qkZ h];have:(j==x)=false:=by simpa using fun e=>h e.symm
   rw[this];rfl
def qlA (l:List Nat) (fr:Fr):Fr := @List.rec (Nat×PV) (fun _=>Fr) [] (fun p _ ih => @Prod.rec Nat PV (fun _=>Fr) (fun j v => @Bool.rec (fun _=>Fr) ((j,v)::ih) (@Bool.rec (fun _=>Fr) ((j,v)::ih) ih (Nat.ble (Nat.succ j) 100000)) (qnv l j)) p) fr
theorem qrA (l:List Nat) : ∀fr,qlA l fr=Fr.drop l fr
 | []=>rfl
 | (j,v)::r=>by
  have ih:=qrA l r
  show @Bool.rec (fun _=>Fr) ((j,v)::qlA l r) (@Bool.rec (fun _=>Fr) ((j,v)::qlA l r) (qlA l r) (Nat.blt j gh)) (qnv l j)=_
  rw[ih,Fr.drop,qvH];cases l.contains j<;>cases Nat.blt j gh<;>rfl
def qcB {α β:Type} (f:α→β) (l:List α):List β := @List.rec α (fun _=>List β) [] (fun x _ ih=>f x::ih) l
theorem qaJ {α β:Type} (f:α→β) : ∀l,qcB f l=l.map f
 | []=>rfl
 |x::r=>by show f x::qcB f r=_;rw[qaJ f r];rfl
def qke {α:Type} (l m:List α):List α := @List.rec α (fun _=>List α) m (fun x _ ih=>x::ih) l
theorem qow {α:Type} : ∀(l m:List α),qke l m=l++m
 | [],m=>rfl
 |x::r,m=>by show x::qke r m=_;rw[qow r m];rfl
def qhe {α:Type} (l:List α):Nat := @List.rec α (fun _=>Nat) 0 (fun _ _ ih=>Nat.succ ih) l
theorem qj1 {α:Type} : ∀(l:List α),qhe l=l.length
 | []=>rfl
 |x::r=>by show Nat.succ (qhe r)=_;rw[qj1 r];rfl
def qqr {α:Type} (l:List α):Nat→Option α := @List.rec α (fun _=>Nat→Option α) (fun _=>none) (fun x _ ih n => @Nat.rec (fun _=>Option α) (some x) (fun m _=>ih m) n) l
theorem qrv {α:Type} : ∀(l:List α) (n:Nat),qqr l n=l[n]?
 | [],n=>rfl
 |x::r,0=>rfl
 |x::r,n+1=>by show qqr r n=_;rw[qrv r n];rfl
def qnQ {α:Type} (x:α) (n:Nat) (l:List α):List α := @Nat.rec (fun _=>List α) l (fun _ ih=>x::ih) n
theorem qs9 {α:Type} (x:α) (l:List α) : ∀n,qnQ x n l=List.replicate n x++l
 | 0=>rfl
 |n+1=>by show x::qnQ x n l=_;rw[qs9 x l n];rfl
def qgz (H:Heap) (o:Nat):Option Obj := @Option.rec (Option Obj) (fun _=>Option Obj) none (fun x=>x) (qqr H o)
theorem qy3 (H:Heap) (o:Nat):qgz H o=Heap.obj H o:=by
 unfold qgz Heap.obj;rw[qrv];cases H[o]? <;> rfl
def krd (E:Env) (fr:Fr) (x:Rand):PV := @Rand.rec (fun _=>PV) (fun t=>qk0 fr t) (fun v=>.d v) (fun n=>match E.G n with|some (v,k)=>.q v k 0|none=>.u) (fun n=>.f n []) x
theorem qrW (E:Env) (fr:Fr):krd E fr=rd E fr:=by
 funext x
 cases x with
 |t n=>exact qoh fr n
 |c v=>rfl
 |f n=>rfl
 |g n=>simp only[krd,rd];cases E.G n<;>rfl
def qaU:Heap→K→PV→Option PV:=qcm
def qaS:Heap→K→PV→PV→Option Heap:=qcf
def qaR:Heap→K→PV→PV→Option PV:=iaddr
def qaT:BinOp→PV→PV→Option DV:=qaQ
def qaP:Nat→PV→Option PV:=qgp
def qaV:Heap→Bool→PV→Option Nat:=qcJ
def qpc (x:Rand) (E:Env) (fr:Fr) (H:Heap) (_id:Nat):Option (PV×Heap):=some (krd E fr x,H)
def qou (c:Rand) (a:Rand) (b:Rand) (E:Env) (fr:Fr) (H:Heap) (_id:Nat):Option (PV×Heap):=match krd E fr c with
  | .d (.b true)=>some (krd E fr a,H)
  | .d (.b false)=>some (krd E fr b,H)
  | _=>none
def qnH (k:K) (z:DV) (_E:Env) (_fr:Fr) (H:Heap) (id:Nat):Option (PV×Heap):=some (.p id 0 0,H.put id (some (.box k (.d z))))
def qog (k:K) (x:Rand) (E:Env) (fr:Fr) (H:Heap) (id:Nat):Option (PV×Heap):=if fits k (krd E fr x) then some (.p id 0 0,H.put id (some (.box k (krd E fr x)))) else none
def qqu (z:List DV) (parts:List (Nat×K×Rand)) (E:Env) (fr:Fr) (H:Heap) (_id:Nat):Option (PV×Heap):=match qcK (z.map .d) (parts.map fun x=>(x.1,x.2.1,krd E fr x.2.2)) with
  |some cs=>some (mkA cs,H)
  |none=>none
def qoZ (k:K) (z:DV) (len:Nat) (parts:List (Nat×Rand)) (E:Env) (fr:Fr) (H:Heap) (id:Nat):Option (PV×Heap):=match qci H k (List.replicate len z) (parts.map fun x=>(x.1,krd E fr x.2)) with
  |some (es,os)=>some (.r id k 0 len true,(frz H os).put id (some (.sl k 0 es)))
  |none=>none
def qq5 (k:K) (x:Rand) (E:Env) (fr:Fr) (H:Heap) (_id:Nat):Option (PV×Heap):=opt (qaU H k (krd E fr x)) H
def qnR (k:K) (x:Rand) (y:Rand) (E:Env) (fr:Fr) (H:Heap) (_id:Nat):Option (PV×Heap):=match qaS H k (krd E fr x) (krd E fr y) with|some H'=>some (.u,H')|none=>none
def qq0 (op:BinOp) (x:Rand) (y:Rand) (E:Env) (fr:Fr) (H:Heap) (_id:Nat):Option (PV×Heap):=qgb (qaT op (krd E fr x) (krd E fr y)) H
def qnW (neg:Bool) (n:List Nat) (x:Rand) (y:Rand) (E:Env) (fr:Fr) (H:Heap) (_id:Nat):Option (PV×Heap):=match eqA n (krd E fr x) (krd E fr y) with
  |some e=>some (.d (.b (if neg then !e else e)),H)
  |none=>none
def qpq (neg:Bool) (x:Rand) (y:Rand) (E:Env) (fr:Fr) (H:Heap) (_id:Nat):Option (PV×Heap):=match krd E fr x,krd E fr y with
  | .d (.b a),.d (.b b)=>some (.d (.b (if neg then !(a==b) else a==b)),H)
  | _,_=>none
def qqU (neg:Bool) (kd:Nat) (x:Rand) (E:Env) (fr:Fr) (H:Heap) (_id:Nat):Option (PV×Heap):=match qff kd (krd E fr x) with|some b=>some (.d (.b (if neg then !b else b)),H)|none=>none
def qpw (op:UnOp) (x:Rand) (E:Env) (fr:Fr) (H:Heap) (_id:Nat):Option (PV×Heap):=qgb (unA op (krd E fr x)) H
def qpi (k:IntKind) (x:Rand) (E:Env) (fr:Fr) (H:Heap) (_id:Nat):Option (PV×Heap):=match krd E fr x with | .d (.i _ n)=>some (.d (.i k (k.wrap n)),H)|_=>none
def qqT (x:Rand) (lo:Option Rand) (hi:Option Rand) (E:Env) (fr:Fr) (H:Heap) (_id:Nat):Option (PV×Heap):=match krd E fr x with
  | .d (.s s)=>match bnd s.length s.length (hi.map (krd E fr)) with
   |some h=>match bnd 0 h (lo.map (krd E fr)) with
    |some l=>some (.d (.s ((s.take h).drop l)),H)
    |none=>none
   |none=>none
  | _=>none
def qoe (k:K) (x:Rand) (lo:Option Rand) (hi:Option Rand) (mx:Option Rand) (E:Env) (fr:Fr) (H:Heap) (_id:Nat):Option (PV×Heap):=opt (slA H k (krd E fr x) (lo.map (krd E fr)) (hi.map (krd E fr)) (mx.map (krd E fr))) H
def qoB (off:Nat) (x:Rand) (E:Env) (fr:Fr) (H:Heap) (_id:Nat):Option (PV×Heap):=opt (qaP off (krd E fr x)) H
def qnT (off:Nat) (k:K) (x:Rand) (E:Env) (fr:Fr) (H:Heap) (_id:Nat):Option (PV×Heap):=opt (qiB off k (krd E fr x)) H
def qoD (k:K) (x:Rand) (i:Rand) (E:Env) (fr:Fr) (H:Heap) (_id:Nat):Option (PV×Heap):=opt (qaR H k (krd E fr x) (krd E fr i)) H
def qra (len:Nat) (k:K) (x:Rand) (i:Rand) (E:Env) (fr:Fr) (H:Heap) (_id:Nat):Option (PV×Heap):=match asI (krd E fr i) with
  |some n=>match inR n len with|some j=>opt (qaP (j*k.size) (krd E fr x)) H|none=>none
  |none=>none
def qoS (x:Rand) (i:Rand) (E:Env) (fr:Fr) (H:Heap) (_id:Nat):Option (PV×Heap):=match krd E fr x,asI (krd E fr i) with
  | .d (.s s),some n=>if 0≤n then match s[n.toNat]? with
   |some b=>some (.d (.i .u8 b.toNat),H)
   |none=>none
   else none
  | _,_=>none
def qo7 (len:Nat) (k:K) (x:Rand) (i:Rand) (E:Env) (fr:Fr) (H:Heap) (_id:Nat):Option (PV×Heap):=match asI (krd E fr i) with
  |some n=>match inR n len with
   |some j=>opt (qiB (j*k.size) k (krd E fr x)) H
   |none=>none
  |none=>none
def qpI (str:Bool) (x:Rand) (E:Env) (fr:Fr) (H:Heap) (_id:Nat):Option (PV×Heap):=match qaV H str (krd E fr x) with|some n=>some (.d (.i .i64 n),H)|none=>none
def qpX (k:K) (bytes:Nat) (x:Rand) (y:Rand) (E:Env) (fr:Fr) (H:Heap) (id:Nat):Option (PV×Heap):=qdd H id k bytes (krd E fr x) (krd E fr y)
def qoR (f:Nat) (args:List Rand) (E:Env) (fr:Fr) (H:Heap) (_id:Nat):Option (PV×Heap):=match qbe H (qcB (krd E fr) args) with
  |some (ds,os)=>match E.val f ds with
   |some (r,_)=>some (r,if os.isEmpty||r.scal then H else frz H os)
   |none=>none
  |none=>none
def qn0 (f:Nat) (args:List Rand) (E:Env) (fr:Fr) (H:Heap) (id:Nat):Option (PV×Heap):=match qbe H (qcB (krd E fr) args) with
  |some (ds,os)=>match E.val f ds with
   |some (.d (.l k es _),true)=>some (.r id k 0 es.length false,(if os.isEmpty then H else frz H os).put id (some (.sl k 0 es)))
   | _=>none
  |none=>none
def qpy (f:Nat) (args:List Rand) (E:Env) (fr:Fr) (H:Heap) (_id:Nat):Option (PV×Heap):=E.ref f (qcB (krd E fr) args) H
def qA3 (mode f:Nat) (args:List Rand):Env→Fr→Heap→Nat→Option (PV×Heap) := @Nat.rec (fun _=>Env→Fr→Heap→Nat→Option (PV×Heap)) (qoR f args) (fun m _ => @Nat.rec (fun _=>Env→Fr→Heap→Nat→Option (PV×Heap)) (qn0 f args) (fun _ _=>qpy f args) m) mode
def qqo (x:Rand) (args:List Rand) (E:Env) (fr:Fr) (H:Heap) (_id:Nat):Option (PV×Heap):=match krd E fr x with
  | .f n caps=>match (if caps.isEmpty then qal (qcB (krd E fr) args) else none) with
   |some ds=>match E.val n ds with
    |some (r,_)=>some (r,H)
    |none=>none
   |none=>E.ref n (qcB (krd E fr) args++caps) H
  | .m n firsts=>match qal (firsts++qcB (krd E fr) args) with
   |some ds=>match E.val n ds with
    |some (r,_)=>some (r,H)
    |none=>none
   |none=>E.ref n (firsts++qcB (krd E fr) args) H
  | .h o=>E.yld o (qcB (krd E fr) args) H
  | _=>none
def qqk (x:Rand) (i:Nat) (E:Env) (fr:Fr) (H:Heap) (_id:Nat):Option (PV×Heap):=match krd E fr x with
  | .t vs=>opt vs[i]? H
  | _=>none
def qof (f:Nat) (caps:List Rand) (E:Env) (fr:Fr) (H:Heap) (_id:Nat):Option (PV×Heap):=some (.f f (qcB (krd E fr) caps),H)
def qpU (f:Nat) (caps:List Rand) (E:Env) (fr:Fr) (H:Heap) (_id:Nat):Option (PV×Heap):=some (.m f (qcB (krd E fr) caps),H)
def qq8 (p:Nat) (args:List Rand) (E:Env) (fr:Fr) (H:Heap) (_id:Nat):Option (PV×Heap):=opt (qfU p (qcB (krd E fr) args)) H
def qpH (x:Rand) (E:Env) (fr:Fr) (H:Heap) (_id:Nat):Option (PV×Heap):=match krd E fr x with
  | .p o i c=>some (.p o i c,H)
  | .q v k c=>some (.q v k c,H)
  | .f n cs=>some (.f n cs,H)
  | _=>none
def qqI (k:K) (bytes:Nat) (z:DV) (len:Rand) (cap:Rand) (E:Env) (fr:Fr) (H:Heap) (id:Nat):Option (PV×Heap):=match asI (krd E fr len),asI (krd E fr cap) with
  |some n,some c=>if 0≤n∧n≤c∧c*bytes≤2^47 then some (.r id k 0 n.toNat false,H.put id (some (.sl k 0 (List.replicate n.toNat z)))) else none
  | _,_=>none
def qp9 (mx:Bool) (args:List Rand) (E:Env) (fr:Fr) (H:Heap) (_id:Nat):Option (PV×Heap):=match qcB (krd E fr) args with
  |v::r=>opt (mmA mx v r) H
  | []=>none
def qob (k:K) (x:Rand) (y:Rand) (E:Env) (fr:Fr) (H:Heap) (_id:Nat):Option (PV×Heap):=match krd E fr x with
  | .r o k' off len _=>match qgz H o,qbO H k (krd E fr y) with
   |some (.sl k'' ro es),some ys =>
    if K.eq k k'&&K.eq k k''&&decide (off+len≤es.length)&&decide (ro≤off) then
     let n:=min ys.length len
     some (.d (.i .i64 n),H.put o (some (.sl k ro (putAt es off (ys.take n)))))
    else none
   | _,_=>none
  | _=>none
def qp8 (k:K) (z:DV) (x:Rand) (E:Env) (fr:Fr) (H:Heap) (_id:Nat):Option (PV×Heap):=match krd E fr x with
  | .r o k' off len _=>match qgz H o with
   |some (.sl k'' ro es) =>
    if K.eq k k'&&K.eq k k''&&decide (off+len≤es.length)&&decide (ro≤off) then some (.t [],H.put o (some (.sl k ro (putAt es off (List.replicate len z))))) else none
   | _=>none
  | .d (.l _ [] _)=>some (.t [],H)
  | _=>none
def qqx (t:Nat) (x:Rand) (E:Env) (fr:Fr) (H:Heap) (_id:Nat):Option (PV×Heap):=match pur H (krd E fr x) with
  |some (v,os)=>some (.d (.ifc t v),frz H os)
  |none=>some (.w t (krd E fr x),H)
def qot (t:Nat) (z:DV) (ok:Bool) (x:Rand) (E:Env) (fr:Fr) (H:Heap) (_id:Nat):Option (PV×Heap):=match krd E fr x with
  | .d (.ifc u v)=>if u=t then some (if ok then .t [.d v,.d (.b true)] else .d v,H) else if ok then some (.t [.d z,.d (.b false)],H) else none
  | .w u v=>if u=t then some (if ok then .t [v,.d (.b true)] else v,H) else if ok then some (.t [.d z,.d (.b false)],H) else none
  | .d .ni=>if ok then some (.t [.d z,.d (.b false)],H) else none
  | _=>none
def qnK (tab:List (Nat×Nat×Nat)) (x:Rand) (args:List Rand) (E:Env) (fr:Fr) (H:Heap) (_id:Nat):Option (PV×Heap):=match krd E fr x with
  | .d (.ifc u v)=>match qh6 u tab with
   |some (0,f)=>match qbe H (qcB (krd E fr) args) with
    |some (ds,os)=>match E.val f (v::ds) with
     |some (r,_)=>some (r,if os.isEmpty||r.scal then H else frz H os)
     |none=>none
    |none=>none
   |some (_,f)=>E.ref f (.d v::qcB (krd E fr) args) H
   |none=>none
  | _=>none
def qnP  (_E:Env) (_fr:Fr) (H:Heap) (id:Nat):Option (PV×Heap):=some (.h id,H.put id (some (.mp [])))
def qoM (ky:Ky) (z:DV) (ok:Bool) (x:Rand) (i:Rand) (E:Env) (fr:Fr) (H:Heap) (_id:Nat):Option (PV×Heap):=match krd E fr i,krd E fr x with
  | .d k,.h o=>if qfg ky k then match qgz H o with
   |some (.mp es)=>match qcv k es with
    |some r=>some (if ok then .t [.d (r.getD z),.d (.b r.isSome)] else .d (r.getD z),H)
    |none=>none
   | _=>none
   else none
  | _,_=>none
def qqQ (ky:Ky) (x:Rand) (i:Rand) (v:Rand) (E:Env) (fr:Fr) (H:Heap) (_id:Nat):Option (PV×Heap):=match krd E fr i,krd E fr x,pur H (krd E fr v) with
  | .d k,.h o,some (xv,os)=>if qfg ky k then match qgz H o with
   |some (.mp es)=>match qcP k xv es with
    |some es'=>some (.u,(frz H os).put o (some (.mp es')))
    |none=>none
   | _=>none
   else none
  | _,_,_=>none
def qqP (ky:Ky) (x:Rand) (i:Rand) (E:Env) (fr:Fr) (H:Heap) (_id:Nat):Option (PV×Heap):=match krd E fr i,krd E fr x with
  | .d k,.h o=>if qfg ky k then match qgz H o with
   |some (.mp es)=>match qoX k es with
    |some es'=>some (.u,H.put o (some (.mp es')))
    |none=>none
   | _=>none
   else none
  | _,_=>none
def qoc (x:Rand) (E:Env) (fr:Fr) (H:Heap) (_id:Nat):Option (PV×Heap):=match krd E fr x with
  | .h o=>match qgz H o with
   |some (.mp es)=>some (.d (.i .i64 es.length),H)
   | _=>none
  | _=>none
def qnV (x:Rand) (E:Env) (fr:Fr) (H:Heap) (id:Nat):Option (PV×Heap):=match krd E fr x with
  | .d (.s l)=>some (.h id,H.put id (some (.si l 0)))
  | _=>none
def qqD (x:Rand) (E:Env) (fr:Fr) (H:Heap) (_id:Nat):Option (PV×Heap):=match krd E fr x with
  | .h o=>match qgz H o with
   |some (.si l pos) =>
    if pos<l.length then
     let c:=Utf8.decode ⟨l.toArray⟩ pos
     some (.t [.d (.b true),.d (.i .i64 pos),.d (.i .i32 c.1)],H.put o (some (.si l (pos+c.2))))
    else some (.t [.d (.b false)],H)
   | _=>none
  | _=>none
def qps (x:Rand) (E:Env) (fr:Fr) (H:Heap) (_id:Nat):Option (PV×Heap):=match krd E fr x with
  | .d (.s _)=>none
  |y=>match qbO H none y with
   |some es=>match qjs es with|some l=>some (.d (.s l),H)|none=>none
   |none=>none
def qq3 (x:Rand) (E:Env) (fr:Fr) (H:Heap) (_id:Nat):Option (PV×Heap):=match krd E fr x with
  | .d (.s l)=>some (.d (.l none (bytesOf l) false),H)
  | _=>none
def qpM (x:Rand) (y:Rand) (E:Env) (fr:Fr) (H:Heap) (_id:Nat):Option (PV×Heap):=match krd E fr x,krd E fr y with
  | .f n caps,.u=>some (.g (.f n caps),H)
  | _,_=>none
def qqf  (_E:Env) (_fr:Fr) (_H:Heap) (_id:Nat):Option (PV×Heap):=none
def kop (op:IOp):Env→Fr→Heap→Nat→Option (PV×Heap) := @IOp.rec (fun _=>Env→Fr→Heap→Nat→Option (PV×Heap)) qpc qou qnH qog qqu qoZ qq5 qnR qq0 qnW qpq qqU qpw qpi qqT qoe qoB qnT qoD qra qoS qo7 qpI qpX qA3 qqo qqk qof qpU qq8 qpH qqI qp9 qob qp8 qqx qot qnK qnP qoM qqQ qqP qoc qnV qqD qps qq3 qpM qqf op
theorem qDo (op:IOp) (E:Env) (fr:Fr) (H:Heap) (id:Nat):kop op E fr H id=qaa E (rd E fr) H id op:=by
 rw[←qrW];have ko:qgz=Heap.obj:=by funext H o;exact qy3 H o
 cases op with
 |mov x=>show qpc x E fr H id=_;simp only[qpc,qaa]<;>rfl
 |pick c a b=>show qou c a b E fr H id=_;simp only[qou,qaa]<;>rfl
 |alloc k z=>show qnH k z E fr H id=_;simp only[qnH,qaa]<;>rfl
 |box k x=>show qog k x E fr H id=_;simp only[qog,qaa]<;>rfl
 |agg z parts=>show qqu z parts E fr H id=_;simp only[qqu,qaa]<;>rfl
 |bsl k z len parts=>show qoZ k z len parts E fr H id=_;simp only[qoZ,qaa]<;>rfl
 |load k x=>show qq5 k x E fr H id=_;simp only[qq5,qaa,qaU]<;>rfl
 |store k x y=>show qnR k x y E fr H id=_;simp only[qnR,qaa,qaS]<;>rfl
 |bin op x y=>show qq0 op x y E fr H id=_;simp only[qq0,qaa,qaT]<;>rfl
 |eqv neg n x y=>show qnW neg n x y E fr H id=_;simp only[qnW,qaa]<;>rfl
 |eqb neg x y=>show qpq neg x y E fr H id=_;simp only[qpq,qaa]<;>rfl
 |isnil neg kd x=>show qqU neg kd x E fr H id=_;simp only[qqU,qaa]<;>rfl
 |un op x=>show qpw op x E fr H id=_;simp only[qpw,qaa]<;>rfl
 |conv k x=>show qpi k x E fr H id=_;simp only[qpi,qaa]<;>rfl
 |slS x lo hi=>show qqT x lo hi E fr H id=_;simp only[qqT,qaa]<;>rfl
 |sl k x lo hi mx=>show qoe k x lo hi mx E fr H id=_;simp only[qoe,qaa]<;>rfl
 |faddr off x=>show qoB off x E fr H id=_;simp only[qoB,qaa,qaP]<;>rfl
 |field off k x=>show qnT off k x E fr H id=_;simp only[qnT,qaa]<;>rfl
 |iaddr k x i=>show qoD k x i E fr H id=_;simp only[qoD,qaa,qaR]<;>rfl
 |iaddrA len k x i=>show qra len k x i E fr H id=_;simp only[qra,qaa,qaP]<;>rfl
 |idxS x i=>show qoS x i E fr H id=_;simp only[qoS,qaa]<;>rfl
 |idxA len k x i=>show qo7 len k x i E fr H id=_;simp only[qo7,qaa]<;>rfl
 |len str x=>show qpI str x E fr H id=_;simp only[qpI,qaa,qaV]<;>rfl
 |app k bytes x y=>show qpX k bytes x y E fr H id=_;simp only[qpX,qaa]<;>rfl
 |call m f args=>match m with
  | 0=>show qoR f args E fr H id=_;simp only[qoR,qaa,qaJ]<;>rfl
  | 1=>show qn0 f args E fr H id=_;simp only[qn0,qaa,qaJ]<;>rfl
  |m+2=>show qpy f args E fr H id=_;simp only[qpy,qaa,qaJ]<;>rfl
 |callv x args=>show qqo x args E fr H id=_;simp only[qqo,qaa,qaJ]<;>rfl
 |ext x i=>show qqk x i E fr H id=_;simp only[qqk,qaa]<;>rfl
 |mkf f caps=>show qof f caps E fr H id=_;simp only[qof,qaa,qaJ]<;>rfl
 |mkm f caps=>show qpU f caps E fr H id=_;simp only[qpU,qaa,qaJ]<;>rfl
 |prim p args=>show qq8 p args E fr H id=_;simp only[qq8,qaa,qaJ]<;>rfl
 |nilck x=>show qpH x E fr H id=_;simp only[qpH,qaa]<;>rfl
 |mksl k bytes z len cap=>show qqI k bytes z len cap E fr H id=_;simp only[qqI,qaa]<;>rfl
 |minmax mx args=>show qp9 mx args E fr H id=_;simp only[qp9,qaa,qaJ]<;>rfl
 |copy k x y=>show qob k x y E fr H id=_;simp only[qob,qaa,ko]<;>rfl
 |clr k z x=>show qp8 k z x E fr H id=_;simp only[qp8,qaa,ko]<;>rfl
 |mkif t x=>show qqx t x E fr H id=_;simp only[qqx,qaa]<;>rfl
 |tas t z ok x=>show qot t z ok x E fr H id=_;simp only[qot,qaa]<;>rfl
 |invk tab x args=>show qnK tab x args E fr H id=_;simp only[qnK,qaa,qaJ]<;>rfl
 |mkmap  => show qnP  E fr H id=_;simp only[qnP,qaa]<;>rfl
 |mget ky z ok x i=>show qoM ky z ok x i E fr H id=_;simp only[qoM,qaa,ko]<;>rfl
 |mset ky x i v=>show qqQ ky x i v E fr H id=_;simp only[qqQ,qaa,ko]<;>rfl
 |mdel ky x i=>show qqP ky x i E fr H id=_;simp only[qqP,qaa,ko]<;>rfl
 |mlen x=>show qoc x E fr H id=_;simp only[qoc,qaa,ko]<;>rfl
 |rngS x=>show qnV x E fr H id=_;simp only[qnV,qaa]<;>rfl
 |nxt x=>show qqD x E fr H id=_;simp only[qqD,qaa,ko]<;>rfl
 |sb x=>show qps x E fr H id=_;simp only[qps,qaa]<;>rfl
 |bs x=>show qq3 x E fr H id=_;simp only[qq3,qaa]<;>rfl
 |dfr x y=>show qpM x y E fr H id=_;simp only[qpM,qaa]<;>rfl
 |bad  => show qqf  E fr H id=_;simp only[qqf,qaa]<;>rfl
def qm9 (d:Option Nat) (fr:Fr) (v:PV):Fr := @Option.rec Nat (fun _=>Fr) fr (fun t=>qoa fr t v) d
abbrev KCf:=Env→Nat→Fr→Heap→Option St
def qnd (op:IOp) (id:Nat):Nat := @Bool.rec (fun _=>Nat) id (Nat.succ id) op.adds
def kgo (dst:Option Nat) (op:IOp) (ih:KCf) (E:Env) (id:Nat) (fr:Fr) (H:Heap):Option St := @Option.rec (PV×Heap) (fun _=>Option St) none (fun p => @Prod.rec PV Heap (fun _=>Option St) (fun v H'=>ih E (qnd op id) (qm9 dst fr v) H') p) (kop op E fr H id)
def kno (dst:Option Nat) (op:IOp) (ih:KCf) (E:Env) (id:Nat) (fr:Fr) (H:Heap):Option St:=ih E (qnd op id) (qm9 dst fr (.t [])) H
def qsI (v:PV) (want:Bool) (go no:Option St):Option St:=match v with
 | .d (.b b)=>if b==want then go else no
 | .t []=>no
 | _=>none
def qrc (dst:Option Nat) (op:IOp) (g:Option (Nat×Bool)) (ih:KCf) (E:Env) (id:Nat) (fr:Fr) (H:Heap):Option St :=
 @Option.rec (Nat×Bool) (fun _=>Option St) (kgo dst op ih E id fr H) (fun p => @Prod.rec Nat Bool (fun _=>Option St) (fun t want=>qsI (qk0 fr t) want (kgo dst op ih E id fr H) (kno dst op ih E id fr H)) p) g
def qiV (l:List IOper):KCf := @List.rec IOper (fun _=>KCf) (fun _ _ fr H=>some ⟨fr,H⟩) (fun o _ ih => @IOper.rec (fun _=>KCf) (fun dst op g=>qrc dst op g ih) o) l
def qmc (d:Option Nat) (fr:Fr) (v:PV):Fr:=match d with|some t=>fr.set t v|none=>fr
theorem qvm (E:Env) : ∀(l:List IOper) (id:Nat) (fr:Fr) (H:Heap),qiV l E id fr H=qaO E l id ⟨fr,H⟩
 | [],id,fr,H=>rfl
 | ⟨dst,op,g⟩::r,id,fr,H=>by
  have ih:=qvm E r
  have hadd:qnd op id=if op.adds then id+1 else id:=by unfold qnd;cases op.adds<;>rfl
  have hd : ∀v,qm9 dst fr v=qmc dst fr v:=by intro v;cases dst<;>simp[qm9,qu6,qmc]
  have hgo:kgo dst op (qiV r) E id fr H=match qaa E (rd E fr) H id op with|some (v,H')=>qaO E r (if op.adds then id+1 else id) ⟨qmc dst fr v,H'⟩|none=>none:=by
   unfold kgo;rw[qDo];cases h:qaa E (rd E fr) H id op with
   |none=>rfl
   |some p=>obtain⟨v,H'⟩:=p;show qiV r E _ _ _=_;rw[ih,hadd,hd]
  have hno:kno dst op (qiV r) E id fr H=qaO E r (if op.adds then id+1 else id) ⟨qmc dst fr (.t []),H⟩:=by
   unfold kno;rw[ih,hadd,hd]
  show qrc dst op g (qiV r) E id fr H=_
  unfold qrc;rw[qaO,hgo,hno];cases g with
  |none=>cases dst<;>rfl
  |some p =>
   obtain⟨t,want⟩:=p;show qsI (qk0 fr t) want _ _=_
   rw[qoh];cases dst<;>rfl
def qmH (ops:List IOper) (kill:List Nat) (E:Env) (fr:Fr) (H:Heap):Option St := @Option.rec St (fun _=>Option St) none (fun s => @St.rec (fun _=>Option St) (fun fr' H'=>some ⟨qlA kill fr',H'⟩) s) (qiV ops E (qhe H) fr (qke H (qnQ none (qap ops) [])))
theorem qEi (ops:List IOper) (kill:List Nat) (E:Env) (fr:Fr) (H:Heap):qmH ops kill E fr H=qdj E ops kill ⟨fr,H⟩:=by
 unfold qmH qdj;rw[qvm,qj1,qow,qs9,List.append_nil];cases qaO E ops H.length ⟨fr,H++List.replicate (qap ops) none⟩ with
 |none=>rfl
 |some s=>obtain⟨fr',H'⟩:=s;show some _=_;rw[qrA]
abbrev KR:=Env→((St→Res)→St→Res)→Nat→Fr→Heap→Res
def qvo (r:Res) (f:Fr→Heap→Res):Res := @Option.rec (Ex×St) (fun _=>Res) none (fun p => @Prod.rec Ex St (fun _=>Res) (fun e s => @Ex.rec (fun _=>Res) (@St.rec (fun _=>Res) f s) (fun j=>some (.exit j,s)) (some (.ret,s)) e) p) r
def qEp:KR:=fun _ _ _ fr H=>some (.norm,⟨fr,H⟩)
def qyf (ops:List IOper) (kill:List Nat):KR:=fun E _ _ fr H => @Option.rec St (fun _=>Res) none (fun s=>some (.norm,s)) (qmH ops kill E fr H)
def qDv (ops:List IOper) (bf kill:List Nat):KR:=fun E _ _ fr H=>match qfN E ops bf kill ⟨fr,H⟩ with|some s'=>some (.norm,s')|none=>none
def qzE (_ _:PC) (a b:KR):KR:=fun E lp base fr H=>qvo (a E lp base fr H) fun fr H=>b E lp base fr H
def qqn (c:Rand) (_ _:PC) (x y:KR):KR:=fun E lp base fr H=>match krd E fr c with
 | .d (.b true)=>x E lp base fr H
 | .d (.b false)=>y E lp base fr H
 | _=>none
def qr4 (id:Nat) (r:Res):Res := @Option.rec (Ex×St) (fun _=>Res) none (fun p => @Prod.rec Ex St (fun _=>Res) (fun e s => @Ex.rec (fun _=>Res) (some (.norm,s)) (fun j => @Bool.rec (fun _=>Res) (some (.exit j,s)) (some (.norm,s)) (Nat.beq j id)) (some (.ret,s)) e) p) r
def qD0 (id:Nat) (_:PC) (x:KR):KR:=fun E lp base fr H=>qr4 id (x E lp base fr H)
def quJ (live:List Nat) (x:KR) (E:Env) (lp:(St→Res)→St→Res) (base:Nat) (s:St):Res := @St.rec (fun _=>Res) (fun fr H=>x E lp base fr H) (gc live base s)
def qy2 (live:List Nat) (_:PC) (x:KR):KR:=fun E lp base fr H=>lp (quJ live x E lp base) ⟨fr,H⟩
def qF1 (f:Rand) (g:Nat) (ps live:List Nat) (a x:PC) (_ _:KR):KR:=fun E lp base fr H=>qak E lp base (.rng f g ps live a x) ⟨fr,H⟩
def qFs (id:Nat):KR:=fun _ _ _ fr H=>some (.exit id,⟨fr,H⟩)
def qyj:KR:=fun _ _ _ fr H=>some (.ret,⟨fr,H⟩)
def qFf:KR:=fun _ _ _ _ _=>none
def kev (c:PC):KR := @PC.rec (fun _=>KR) qEp qyf qDv qzE qqn qD0 qy2 qF1 qFs qyj qFf c
theorem qz1 (E:Env) (lp:(St→Res)→St→Res) (base:Nat) : ∀(c:PC) (fr:Fr) (H:Heap),kev c E lp base fr H=qak E lp base c ⟨fr,H⟩:=by
 intro c;induction c with
 |skip=>intro fr H;rfl
 |reg ops kill =>
  intro fr H;show @Option.rec St (fun _=>Res) none (fun s=>some (.norm,s)) (qmH ops kill E fr H)=_
  rw[qEi,qak];cases qdj E ops kill ⟨fr,H⟩<;>rfl
 |regD ops bf kill=>intro fr H;rfl
 |seq a b iha ihb =>
  intro fr H;show qvo (kev a E lp base fr H) (fun fr H=>kev b E lp base fr H)=_
  rw[iha,qak];cases qak E lp base a ⟨fr,H⟩ with
  |none=>rfl
  |some p =>
   obtain⟨e,s⟩:=p;cases e with
   |norm=>obtain⟨fr',H'⟩:=s;exact ihb fr' H'
   |exit j=>rfl
   |ret=>rfl
 |cond c x y ihx ihy =>
  intro fr H;show qqn c x y (kev x) (kev y) E lp base fr H=_
  unfold qqn;rw[qrW,qak,ihx,ihy];rfl
 |block id x ih =>
  intro fr H;show qr4 id (kev x E lp base fr H)=_
  rw[ih,qak];cases qak E lp base x ⟨fr,H⟩ with
  |none=>rfl
  |some p =>
   obtain⟨e,s⟩:=p;cases e with
   |norm=>rfl
   |exit j =>
    show @Bool.rec (fun _=>Res) (some (.exit j,s)) (some (.norm,s)) (Nat.beq j id)=if j==id then _ else _
    have:(j==id)=Nat.beq j id:=by by_cases h:j=id; · { subst h;rw[Nat.beq_refl];simp }; · { rw[qkZ h];simpa using h }
    rw[this];cases Nat.beq j id<;>rfl
   |ret=>rfl
 |loop live x ih =>
  intro fr H;show lp (quJ live (kev x) E lp base) ⟨fr,H⟩=_
  rw[qak];congr 1
  funext s
  exact ih _ _
 |rng f g ps live a x iha ihx=>intro fr H;rfl
 |exit id=>intro fr H;rfl
 |ret=>intro fr H;rfl
 |bad=>intro fr H;rfl
def klp (n:Nat):(St→Res)→St→Res := @Nat.rec (fun _=>(St→Res)→St→Res) (fun _ _=>none) (fun _ ih f s => @Option.rec (Ex×St) (fun _=>Res) none (fun p => @Prod.rec Ex St (fun _=>Res) (fun e s' => @Ex.rec (fun _=>Res) (ih f s') (fun j=>some (.exit j,s')) (some (.ret,s')) e) p) (f s)) n
theorem qpv : ∀n,klp n=lpN n
 | 0=>rfl
 |n+1=>by
  funext f s
  have ih:=qpv n
  show @Option.rec (Ex×St) (fun _=>Res) none (fun p => @Prod.rec Ex St (fun _=>Res) (fun e s' => @Ex.rec (fun _=>Res) (klp n f s') (fun j=>some (.exit j,s')) (some (.ret,s')) e) p) (f s)=_
  rw[ih,lpN];cases f s with
  |none=>rfl
  |some p=>obtain⟨e,s'⟩:=p;cases e<;>rfl
def qsu (E:Env) (rs:List RV) (s:St):Option (PV×Heap):=match runG E (qau s.fr) s.H with
   |some H'=>match results s.fr H' rs with
    |some vs=>some (qc1 vs,H')
    |none=>none
   |none=>none
def qoz (E:Env) (rs:List RV) (r:Res):Option (PV×Heap) := @Option.rec (Ex×St) (fun _=>Option (PV×Heap)) none (fun p => @Prod.rec Ex St (fun _=>Option (PV×Heap)) (fun e s => @Ex.rec (fun _=>Option (PV×Heap)) (qsu E rs s) (fun _=>none) (qsu E rs s) e) p) r
def qnE:List PV→Nat→Fr:=fun l => @List.rec PV (fun _=>Nat→Fr) (fun _=>[]) (fun v _ ih j=>qke (ih (Nat.succ j)) [(j,v)]) l
theorem qsS : ∀(l:List PV) (j:Nat),qnE l j=Fr.ofArgs j l
 | [],j=>rfl
 |v::r,j=>by show qke (qnE r (j+1)) [(j,v)]=_;rw[qow,qsS r,Fr.ofArgs]
def kfn (E:Env) (lp:(St→Res)→St→Res) (F:PF) (args:List PV) (H:Heap):Option (PV×Heap) := @PF.rec (fun _=>Option (PV×Heap)) (fun nargs rs body => @Bool.rec (fun _=>Option (PV×Heap)) none (qoz E rs (kev body E lp (qhe H) (qnE args 0) H)) (Nat.beq (qhe args) nargs)) F
theorem qsw (E:Env) (lp:(St→Res)→St→Res) (F:PF) (args:List PV) (H:Heap):kfn E lp F args H=qbU E lp F args H:=by
 obtain⟨nargs,rs,body⟩:=F;show @Bool.rec (fun _=>Option (PV×Heap)) none (qoz E rs (kev body E lp (qhe H) (qnE args 0) H)) (Nat.beq (qhe args) nargs)=_
 rw[qj1,qj1,qz1,qsS];unfold qbU;by_cases h:args.length=nargs
 ·rw[if_pos h,h,Nat.beq_refl];show qoz E rs (qak E lp H.length body ⟨Fr.ofArgs 0 args,H⟩)=_
  cases qak E lp H.length body ⟨Fr.ofArgs 0 args,H⟩ with
  |none=>rfl
  |some p=>obtain⟨e,s⟩:=p;cases e<;>rfl
 ·rw[if_neg h,qkZ h]
abbrev KY:=Nat→List PV→Heap→Option (PV×Heap)
structure KP where
 it:KY→KY
 val:Nat→List DV→Option (PV×Bool)
def qqZ (E:Env) (lp:(St→Res)→St→Res) (args:List PV) (H:Heap) (F:PF):Option (PV×Heap) := @Option.rec (PV×Heap) (fun _=>Option (PV×Heap)) none (fun p => @Prod.rec PV Heap (fun _=>Option (PV×Heap)) (fun v H'=>some (gcV (qhe H) v H')) p) (kfn E lp F args H)
def kit (T:Tab) (n:Nat) (P:KP) (Y:KY) (f:Nat) (args:List PV) (H:Heap):Option (PV×Heap) := @Option.rec PF (fun _=>Option (PV×Heap)) (T.R f args H) (qqZ ⟨T.G,P.it noY,P.val,Y,P.it,T.dok⟩ (klp n) args H) (T.F f)
def qn2 (E:Env) (lp:(St→Res)→St→Res) (args:List DV) (F:PF):Option (PV×Bool) := @Option.rec (PV×Heap) (fun _=>Option (PV×Bool)) none (fun p => @Prod.rec PV Heap (fun _=>Option (PV×Bool)) (fun v H'=>purT H' v) p) (kfn E lp F (qcB .d args) [])
def qp0 (T:Tab) (n:Nat) (P:KP) (f:Nat) (args:List DV):Option (PV×Bool) := @Option.rec PF (fun _=>Option (PV×Bool)) (T.X f args) (qn2 ⟨T.G,P.it noY,P.val,noY,P.it,T.dok⟩ (klp n) args) (T.F f)
def kN (T:Tab) (n:Nat):KP := @Nat.rec (fun _=>KP) ⟨fun _ _ _ _=>none,fun _ _=>none⟩ (fun n P=>⟨kit T n P,qp0 T n P⟩) n
theorem qp5 (T:Tab) : ∀n,(kN T n).it=itN T n∧(kN T n).val=qcM T n
 | 0=>⟨by funext Y f a H;rw[itN];rfl,by funext f a;rw[qcM];rfl⟩
 |n+1=>by
  obtain⟨h1,h2⟩:=qp5 T n;constructor
  ·funext Y f a H
   show kit T n (kN T n) Y f a H=_
   rw[qfL];unfold kit;cases T.F f with
   |none=>rfl
   |some F =>
    show qqZ _ (klp n) a H F=_
    unfold qqZ;rw[h1,h2,qpv,qsw,qj1];show @Option.rec (PV×Heap) (fun _=>Option (PV×Heap)) none _ (qbU (envY T n Y) (lpN n) F a H)=_
    dsimp only
    cases qbU (envY T n Y) (lpN n) F a H with
    |none=>rfl
    |some p=>rfl
  ·funext f a
   show qp0 T n (kN T n) f a=_
   rw[qhG];unfold qp0;cases T.F f with
   |none=>rfl
   |some F =>
    show qn2 _ (klp n) a F=_
    unfold qn2;rw[h1,h2,qpv,qsw,qaJ];show @Option.rec (PV×Heap) (fun _=>Option (PV×Bool)) none _ (qbU (qcr T n) (lpN n) F (a.map .d) [])=_
    dsimp only
    cases qbU (qcr T n) (lpN n) F (a.map .d) [] with
    |none=>rfl
    |some p=>rfl
theorem qhU {T:Tab} {f:Nat} {args:List DV} {r:PV×Bool} (n:Nat) (h:(kN T n).val f args=some r):T.val f args=some r:=(qi7 T f args r).2 ⟨n,by rw[←(qp5 T n).2];exact h⟩
end
end Go.Sim

