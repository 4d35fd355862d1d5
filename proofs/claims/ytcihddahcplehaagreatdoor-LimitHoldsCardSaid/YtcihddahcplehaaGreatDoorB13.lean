/- Part 13 of the proof: CbFast. -/
import Derived.Test.YtcihddahcplehaaGreatDoorB3
namespace Go.Sim
noncomputable section
def qlC (fr:Fr) (t:Nat):PV := @List.rec (Nat×PV) (fun _=>PV) .u (fun p _ ih => @Prod.rec Nat PV (fun _=>PV) (fun j v => @Bool.rec (fun _=>PV) ih v (Nat.beq j t)) p) fr
theorem qjw {j t:Nat} (h : ¬j=t):Nat.beq j t=false:=by
 cases e:Nat.beq j t with
 |false=>rfl
 |true=>exact absurd (Nat.eq_of_beq_eq_true e) h
theorem qoC : ∀fr t,qlC fr t=Fr.get fr t
 | [],t=>rfl
 | (j,v)::r,t=>by
  have ih:=qoC r t
  show @Bool.rec (fun _=>PV) (qlC r t) v (Nat.beq j t)=_
  rw[ih,Fr.get];by_cases h:j=t
  ·subst h;rw[if_pos rfl,Nat.beq_refl]
  ·rw[if_neg h,qjw h]
def qqE (fr:Fr) (t:Nat) (v:PV):Fr := @List.rec (Nat×PV) (fun _=>Fr) [(t,v)] (fun p r ih => @Prod.rec Nat PV (fun _=>Fr) (fun j x => @Bool.rec (fun _=>Fr) (@Bool.rec (fun _=>Fr) ((j,x)::ih) ((t,v)::(j,x)::r) (Nat.ble (Nat.succ j) t)) ((t,v)::r) (Nat.beq j t)) p) fr
theorem qyu : ∀fr t v,qqE fr t v=Fr.set fr t v
 | [],t,v=>rfl
 | (j,x)::r,t,v=>by
  have ih:=qyu r t v
  show @Bool.rec (fun _=>Fr) (@Bool.rec (fun _=>Fr) ((j,x)::qqE r t v) ((t,v)::(j,x)::r) (Nat.ble (Nat.succ j) t)) ((t,v)::r) (Nat.beq j t)=_
  rw[ih,Fr.set];by_cases h:j=t
  ·subst h;rw[if_pos rfl,Nat.beq_refl]
  ·rw[if_neg h,qjw h];show @Bool.rec (fun _=>Fr) _ _ (Nat.ble (Nat.succ j) t)=_
   by_cases h2:j<t
   ·rw[if_pos h2,Nat.ble_eq_true_of_le h2]
   ·rw[if_neg h2,Bool.eq_false_iff.2 (fun e=>h2 (Nat.le_of_ble_eq_true e))]
def qmV (l:List Nat) (j:Nat):Bool := @List.rec Nat (fun _=>Bool) false (fun x _ ih => @Bool.rec (fun _=>Bool) ih true (Nat.beq x j)) l
theorem qwG : ∀l j,qmV l j=l.contains j
 | [],j=>rfl
 |x::r,j=>by
  have ih:=qwG r j
  show @Bool.rec (fun _=>Bool) (qmV r j) true (Nat.beq x j)=_
  rw[ih,List.contains_cons];by_cases h:x=j
  ·subst h;rw[Nat.beq_refl];simp
  ·rw[qjw h];have:(j==x)=false:=by simpa using fun e=>h e.symm
   rw[this];rfl
def qk2 (l:List Nat) (fr:Fr):Fr := @List.rec (Nat×PV) (fun _=>Fr) [] (fun p _ ih => @Prod.rec Nat PV (fun _=>Fr) (fun j v => @Bool.rec (fun _=>Fr) ((j,v)::ih) (@Bool.rec (fun _=>Fr) ((j,v)::ih) ih (Nat.ble (Nat.succ j) 100000)) (qmV l j)) p) fr
theorem qwV (l:List Nat) : ∀fr,qk2 l fr=Fr.drop l fr
 | []=>rfl
 | (j,v)::r=>by
  have ih:=qwV l r
  show @Bool.rec (fun _=>Fr) ((j,v)::qk2 l r) (@Bool.rec (fun _=>Fr) ((j,v)::qk2 l r) (qk2 l r) (Nat.blt j gh)) (qmV l j)=_
  rw[ih,Fr.drop,qwG];cases l.contains j<;>cases Nat.blt j gh<;>rfl
def qcu {α β:Type} (f:α→β) (l:List α):List β := @List.rec α (fun _=>List β) [] (fun x _ ih=>f x::ih) l
theorem qaD {α β:Type} (f:α→β) : ∀l,qcu f l=l.map f
 | []=>rfl
 |x::r=>by show f x::qcu f r=_;rw[qaD f r];rfl
def qkV {α:Type} (l m:List α):List α := @List.rec α (fun _=>List α) m (fun x _ ih=>x::ih) l
theorem qpH {α:Type} : ∀(l m:List α),qkV l m=l++m
 | [],m=>rfl
 |x::r,m=>by show x::qkV r m=_;rw[qpH r m];rfl
def qg1 {α:Type} (l:List α):Nat := @List.rec α (fun _=>Nat) 0 (fun _ _ ih=>Nat.succ ih) l
theorem qj3 {α:Type} : ∀(l:List α),qg1 l=l.length
 | []=>rfl
 |x::r=>by show Nat.succ (qg1 r)=_;rw[qj3 r];rfl
def qpl {α:Type} (l:List α):Nat→Option α := @List.rec α (fun _=>Nat→Option α) (fun _=>none) (fun x _ ih n => @Nat.rec (fun _=>Option α) (some x) (fun m _=>ih m) n) l
theorem qu4 {α:Type} : ∀(l:List α) (n:Nat),qpl l n=l[n]?
 | [],n=>rfl
 |x::r,0=>rfl
 |x::r,n+1=>by show qpl r n=_;rw[qu4 r n];rfl
def qpv {α:Type} (x:α) (n:Nat) (l:List α):List α := @Nat.rec (fun _=>List α) l (fun _ ih=>x::ih) n
theorem qth {α:Type} (x:α) (l:List α) : ∀n,qpv x n l=List.replicate n x++l
 | 0=>rfl
 |n+1=>by show x::qpv x n l=_;rw[qth x l n];rfl
def qgh (H:Heap) (o:Nat):Option Obj := @Option.rec (Option Obj) (fun _=>Option Obj) none (fun x=>x) (qpl H o)
theorem qKy (H:Heap) (o:Nat):qgh H o=Heap.obj H o:=by
 unfold qgh Heap.obj;rw[qu4];cases H[o]? <;> rfl
def krd (E:Env) (fr:Fr) (x:Rand):PV := @Rand.rec (fun _=>PV) (fun t=>qlC fr t) (fun v=>.d v) (fun n=>match E.G n with|some (v,k)=>.q v k 0|none=>.u) (fun n=>.f n []) x
theorem qyw (E:Env) (fr:Fr):krd E fr=rd E fr:=by
 funext x
 cases x with
 |t n=>exact qoC fr n
 |c v=>rfl
 |f n=>rfl
 |g n=>simp only[krd,rd];cases E.G n<;>rfl
def qaG:Heap→K→PV→Option PV:=qbl
def qaK:Heap→K→PV→PV→Option Heap:=qb6
def qaI:Heap→K→PV→PV→Option PV:=iaddr
def qaJ:BinOp→PV→PV→Option DV:=qaV
def qaF:Nat→PV→Option PV:=qfG
def qaH:Heap→Bool→PV→Option Nat:=qbw
def qpb (x:Rand) (E:Env) (fr:Fr) (H:Heap) (_id:Nat):Option (PV×Heap):=some (krd E fr x,H)
def qqJ (c:Rand) (a:Rand) (b:Rand) (E:Env) (fr:Fr) (H:Heap) (_id:Nat):Option (PV×Heap):=match krd E fr c with
  | .d (.b true)=>some (krd E fr a,H)
  | .d (.b false)=>some (krd E fr b,H)
  | _=>none
def qss (k:K) (z:DV) (_E:Env) (_fr:Fr) (H:Heap) (id:Nat):Option (PV×Heap):=some (.p id 0 0,H.put id (some (.box k (.d z))))
def qp5 (k:K) (x:Rand) (E:Env) (fr:Fr) (H:Heap) (id:Nat):Option (PV×Heap):=if fits k (krd E fr x) then some (.p id 0 0,H.put id (some (.box k (krd E fr x)))) else none
def qr6 (z:List DV) (parts:List (Nat×K×Rand)) (E:Env) (fr:Fr) (H:Heap) (_id:Nat):Option (PV×Heap):=match qck (z.map .d) (parts.map fun x=>(x.1,x.2.1,krd E fr x.2.2)) with
  |some cs=>some (mkA cs,H)
  |none=>none
def qqx (k:K) (z:DV) (len:Nat) (parts:List (Nat×Rand)) (E:Env) (fr:Fr) (H:Heap) (id:Nat):Option (PV×Heap):=match qbh H k (List.replicate len z) (parts.map fun x=>(x.1,krd E fr x.2)) with
  |some (es,os)=>some (.r id k 0 len true,(frz H os).put id (some (.sl k 0 es)))
  |none=>none
def qoh (k:K) (x:Rand) (E:Env) (fr:Fr) (H:Heap) (_id:Nat):Option (PV×Heap):=opt (qaG H k (krd E fr x)) H
def qoI (k:K) (x:Rand) (y:Rand) (E:Env) (fr:Fr) (H:Heap) (_id:Nat):Option (PV×Heap):=match qaK H k (krd E fr x) (krd E fr y) with|some H'=>some (.u,H')|none=>none
def qrv (op:BinOp) (x:Rand) (y:Rand) (E:Env) (fr:Fr) (H:Heap) (_id:Nat):Option (PV×Heap):=qft (qaJ op (krd E fr x) (krd E fr y)) H
def qsC (neg:Bool) (n:List Nat) (x:Rand) (y:Rand) (E:Env) (fr:Fr) (H:Heap) (_id:Nat):Option (PV×Heap):=match eqA n (krd E fr x) (krd E fr y) with
  |some e=>some (.d (.b (if neg then !e else e)),H)
  |none=>none
def qrf (neg:Bool) (x:Rand) (y:Rand) (E:Env) (fr:Fr) (H:Heap) (_id:Nat):Option (PV×Heap):=match krd E fr x,krd E fr y with
  | .d (.b a),.d (.b b)=>some (.d (.b (if neg then !(a==b) else a==b)),H)
  | _,_=>none
def qrM (neg:Bool) (kd:Nat) (x:Rand) (E:Env) (fr:Fr) (H:Heap) (_id:Nat):Option (PV×Heap):=match qgw kd (krd E fr x) with|some b=>some (.d (.b (if neg then !b else b)),H)|none=>none
def qqD (op:UnOp) (x:Rand) (E:Env) (fr:Fr) (H:Heap) (_id:Nat):Option (PV×Heap):=qft (unA op (krd E fr x)) H
def qr1 (k:IntKind) (x:Rand) (E:Env) (fr:Fr) (H:Heap) (_id:Nat):Option (PV×Heap):=match krd E fr x with | .d (.i _ n)=>some (.d (.i k (k.wrap n)),H)|_=>none
def qn6 (x:Rand) (lo:Option Rand) (hi:Option Rand) (E:Env) (fr:Fr) (H:Heap) (_id:Nat):Option (PV×Heap):=match krd E fr x with
  | .d (.s s)=>match bnd s.length s.length (hi.map (krd E fr)) with
   |some h=>match bnd 0 h (lo.map (krd E fr)) with
    |some l=>some (.d (.s ((s.take h).drop l)),H)
    |none=>none
   |none=>none
  | _=>none
def qpu (k:K) (x:Rand) (lo:Option Rand) (hi:Option Rand) (mx:Option Rand) (E:Env) (fr:Fr) (H:Heap) (_id:Nat):Option (PV×Heap):=opt (slA H k (krd E fr x) (lo.map (krd E fr)) (hi.map (krd E fr)) (mx.map (krd E fr))) H
def qpj (off:Nat) (x:Rand) (E:Env) (fr:Fr) (H:Heap) (_id:Nat):Option (PV×Heap):=opt (qaF off (krd E fr x)) H
def qpq (off:Nat) (k:K) (x:Rand) (E:Env) (fr:Fr) (H:Heap) (_id:Nat):Option (PV×Heap):=opt (qd9 off k (krd E fr x)) H
def qq9 (k:K) (x:Rand) (i:Rand) (E:Env) (fr:Fr) (H:Heap) (_id:Nat):Option (PV×Heap):=opt (qaI H k (krd E fr x) (krd E fr i)) H
def qo0 (len:Nat) (k:K) (x:Rand) (i:Rand) (E:Env) (fr:Fr) (H:Heap) (_id:Nat):Option (PV×Heap):=match asI (krd E fr i) with
  |some n=>match inR n len with|some j=>opt (qaF (j*k.size) (krd E fr x)) H|none=>none
  |none=>none
def qqX (x:Rand) (i:Rand) (E:Env) (fr:Fr) (H:Heap) (_id:Nat):Option (PV×Heap):=match krd E fr x,asI (krd E fr i) with
  | .d (.s s),some n=>if 0≤n then match s[n.toNat]? with
   |some b=>some (.d (.i .u8 b.toNat),H)
   |none=>none
   else none
  | _,_=>none
def qqk (len:Nat) (k:K) (x:Rand) (i:Rand) (E:Env) (fr:Fr) (H:Heap) (_id:Nat):Option (PV×Heap):=match asI (krd E fr i) with
  |some n=>match inR n len with
   |some j=>opt (qd9 (j*k.size) k (krd E fr x)) H
   |none=>none
  |none=>none
def qoH (str:Bool) (x:Rand) (E:Env) (fr:Fr) (H:Heap) (_id:Nat):Option (PV×Heap):=match qaH H str (krd E fr x) with|some n=>some (.d (.i .i64 n),H)|none=>none
def qon (k:K) (bytes:Nat) (x:Rand) (y:Rand) (E:Env) (fr:Fr) (H:Heap) (id:Nat):Option (PV×Heap):=qcl H id k bytes (krd E fr x) (krd E fr y)
def qrF (f:Nat) (args:List Rand) (E:Env) (fr:Fr) (H:Heap) (_id:Nat):Option (PV×Heap):=match qaL H (qcu (krd E fr) args) with
  |some (ds,os)=>match E.val f ds with
   |some (r,_)=>some (r,if os.isEmpty||r.scal then H else frz H os)
   |none=>none
  |none=>none
def qq7 (f:Nat) (args:List Rand) (E:Env) (fr:Fr) (H:Heap) (id:Nat):Option (PV×Heap):=match qaL H (qcu (krd E fr) args) with
  |some (ds,os)=>match E.val f ds with
   |some (.d (.l k es _),true)=>some (.r id k 0 es.length false,(if os.isEmpty then H else frz H os).put id (some (.sl k 0 es)))
   | _=>none
  |none=>none
def qqM (f:Nat) (args:List Rand) (E:Env) (fr:Fr) (H:Heap) (_id:Nat):Option (PV×Heap):=E.ref f (qcu (krd E fr) args) H
def qzK (mode f:Nat) (args:List Rand):Env→Fr→Heap→Nat→Option (PV×Heap) := @Nat.rec (fun _=>Env→Fr→Heap→Nat→Option (PV×Heap)) (qrF f args) (fun m _ => @Nat.rec (fun _=>Env→Fr→Heap→Nat→Option (PV×Heap)) (qq7 f args) (fun _ _=>qqM f args) m) mode
def qrB (x:Rand) (args:List Rand) (E:Env) (fr:Fr) (H:Heap) (_id:Nat):Option (PV×Heap):=match krd E fr x with
  | .f n caps=>match (if caps.isEmpty then qa0 (qcu (krd E fr) args) else none) with
   |some ds=>match E.val n ds with
    |some (r,_)=>some (r,H)
    |none=>none
   |none=>E.ref n (qcu (krd E fr) args++caps) H
  | .m n firsts=>match qa0 (firsts++qcu (krd E fr) args) with
   |some ds=>match E.val n ds with
    |some (r,_)=>some (r,H)
    |none=>none
   |none=>E.ref n (firsts++qcu (krd E fr) args) H
  | .h o=>E.yld o (qcu (krd E fr) args) H
  | _=>none
def qrc (x:Rand) (i:Nat) (E:Env) (fr:Fr) (H:Heap) (_id:Nat):Option (PV×Heap):=match krd E fr x with
  | .t vs=>opt vs[i]? H
  | _=>none
def qoL (f:Nat) (caps:List Rand) (E:Env) (fr:Fr) (H:Heap) (_id:Nat):Option (PV×Heap):=some (.f f (qcu (krd E fr) caps),H)
def qrW (f:Nat) (caps:List Rand) (E:Env) (fr:Fr) (H:Heap) (_id:Nat):Option (PV×Heap):=some (.m f (qcu (krd E fr) caps),H)
def qqT (p:Nat) (args:List Rand) (E:Env) (fr:Fr) (H:Heap) (_id:Nat):Option (PV×Heap):=opt (qiC p (qcu (krd E fr) args)) H
def qqN (x:Rand) (E:Env) (fr:Fr) (H:Heap) (_id:Nat):Option (PV×Heap):=match krd E fr x with
  | .p o i c=>some (.p o i c,H)
  | .q v k c=>some (.q v k c,H)
  | .f n cs=>some (.f n cs,H)
  | _=>none
def qqQ (k:K) (bytes:Nat) (z:DV) (len:Rand) (cap:Rand) (E:Env) (fr:Fr) (H:Heap) (id:Nat):Option (PV×Heap):=match asI (krd E fr len),asI (krd E fr cap) with
  |some n,some c=>if 0≤n∧n≤c∧c*bytes≤2^47 then some (.r id k 0 n.toNat false,H.put id (some (.sl k 0 (List.replicate n.toNat z)))) else none
  | _,_=>none
def qpz (mx:Bool) (args:List Rand) (E:Env) (fr:Fr) (H:Heap) (_id:Nat):Option (PV×Heap):=match qcu (krd E fr) args with
  |v::r=>opt (mmA mx v r) H
  | []=>none
def qn7 (k:K) (x:Rand) (y:Rand) (E:Env) (fr:Fr) (H:Heap) (_id:Nat):Option (PV×Heap):=match krd E fr x with
  | .r o k' off len _=>match qgh H o,qaW H k (krd E fr y) with
   |some (.sl k'' ro es),some ys =>
    if K.eq k k'&&K.eq k k''&&decide (off+len≤es.length)&&decide (ro≤off) then
     let n:=min ys.length len
     some (.d (.i .i64 n),H.put o (some (.sl k ro (putAt es off (ys.take n)))))
    else none
   | _,_=>none
  | _=>none
def qps (k:K) (z:DV) (x:Rand) (E:Env) (fr:Fr) (H:Heap) (_id:Nat):Option (PV×Heap):=match krd E fr x with
  | .r o k' off len _=>match qgh H o with
   |some (.sl k'' ro es) =>
    if K.eq k k'&&K.eq k k''&&decide (off+len≤es.length)&&decide (ro≤off) then some (.t [],H.put o (some (.sl k ro (putAt es off (List.replicate len z))))) else none
   | _=>none
  | .d (.l _ [] _)=>some (.t [],H)
  | _=>none
def qoj (t:Nat) (x:Rand) (E:Env) (fr:Fr) (H:Heap) (_id:Nat):Option (PV×Heap):=match pur H (krd E fr x) with
  |some (v,os)=>some (.d (.ifc t v),frz H os)
  |none=>some (.w t (krd E fr x),H)
def qqo (t:Nat) (z:DV) (ok:Bool) (x:Rand) (E:Env) (fr:Fr) (H:Heap) (_id:Nat):Option (PV×Heap):=match krd E fr x with
  | .d (.ifc u v)=>if u=t then some (if ok then .t [.d v,.d (.b true)] else .d v,H) else if ok then some (.t [.d z,.d (.b false)],H) else none
  | .w u v=>if u=t then some (if ok then .t [v,.d (.b true)] else v,H) else if ok then some (.t [.d z,.d (.b false)],H) else none
  | .d .ni=>if ok then some (.t [.d z,.d (.b false)],H) else none
  | _=>none
def qpP (tab:List (Nat×Nat×Nat)) (x:Rand) (args:List Rand) (E:Env) (fr:Fr) (H:Heap) (_id:Nat):Option (PV×Heap):=match krd E fr x with
  | .d (.ifc u v)=>match qhC u tab with
   |some (0,f)=>match qaL H (qcu (krd E fr) args) with
    |some (ds,os)=>match E.val f (v::ds) with
     |some (r,_)=>some (r,if os.isEmpty||r.scal then H else frz H os)
     |none=>none
    |none=>none
   |some (_,f)=>E.ref f (.d v::qcu (krd E fr) args) H
   |none=>none
  | _=>none
def qoN  (_E:Env) (_fr:Fr) (H:Heap) (id:Nat):Option (PV×Heap):=some (.h id,H.put id (some (.mp [])))
def qpZ (ky:Ky) (z:DV) (ok:Bool) (x:Rand) (i:Rand) (E:Env) (fr:Fr) (H:Heap) (_id:Nat):Option (PV×Heap):=match krd E fr i,krd E fr x with
  | .d k,.h o=>if qgb ky k then match qgh H o with
   |some (.mp es)=>match qcO k es with
    |some r=>some (if ok then .t [.d (r.getD z),.d (.b r.isSome)] else .d (r.getD z),H)
    |none=>none
   | _=>none
   else none
  | _,_=>none
def qrJ (ky:Ky) (x:Rand) (i:Rand) (v:Rand) (E:Env) (fr:Fr) (H:Heap) (_id:Nat):Option (PV×Heap):=match krd E fr i,krd E fr x,pur H (krd E fr v) with
  | .d k,.h o,some (xv,os)=>if qgb ky k then match qgh H o with
   |some (.mp es)=>match qcL k xv es with
    |some es'=>some (.u,(frz H os).put o (some (.mp es')))
    |none=>none
   | _=>none
   else none
  | _,_,_=>none
def qrN (ky:Ky) (x:Rand) (i:Rand) (E:Env) (fr:Fr) (H:Heap) (_id:Nat):Option (PV×Heap):=match krd E fr i,krd E fr x with
  | .d k,.h o=>if qgb ky k then match qgh H o with
   |some (.mp es)=>match qpD k es with
    |some es'=>some (.u,H.put o (some (.mp es')))
    |none=>none
   | _=>none
   else none
  | _,_=>none
def qsw (x:Rand) (E:Env) (fr:Fr) (H:Heap) (_id:Nat):Option (PV×Heap):=match krd E fr x with
  | .h o=>match qgh H o with
   |some (.mp es)=>some (.d (.i .i64 es.length),H)
   | _=>none
  | _=>none
def qrT (x:Rand) (E:Env) (fr:Fr) (H:Heap) (id:Nat):Option (PV×Heap):=match krd E fr x with
  | .d (.s l)=>some (.h id,H.put id (some (.si l 0)))
  | _=>none
def qr0 (x:Rand) (E:Env) (fr:Fr) (H:Heap) (_id:Nat):Option (PV×Heap):=match krd E fr x with
  | .h o=>match qgh H o with
   |some (.si l pos) =>
    if pos<l.length then
     let c:=Utf8.decode ⟨l.toArray⟩ pos
     some (.t [.d (.b true),.d (.i .i64 pos),.d (.i .i32 c.1)],H.put o (some (.si l (pos+c.2))))
    else some (.t [.d (.b false)],H)
   | _=>none
  | _=>none
def qsj (x:Rand) (E:Env) (fr:Fr) (H:Heap) (_id:Nat):Option (PV×Heap):=match krd E fr x with
  | .d (.s _)=>none
  |y=>match qaW H none y with
   |some es=>match qi9 es with|some l=>some (.d (.s l),H)|none=>none
   |none=>none
def qol (x:Rand) (E:Env) (fr:Fr) (H:Heap) (_id:Nat):Option (PV×Heap):=match krd E fr x with
  | .d (.s l)=>some (.d (.l none (bytesOf l) false),H)
  | _=>none
def qrP (x:Rand) (y:Rand) (E:Env) (fr:Fr) (H:Heap) (_id:Nat):Option (PV×Heap):=match krd E fr x,krd E fr y with
  | .f n caps,.u=>some (.g (.f n caps),H)
  | _,_=>none
def qpF  (_E:Env) (_fr:Fr) (_H:Heap) (_id:Nat):Option (PV×Heap):=none
def kop (op:IOp):Env→Fr→Heap→Nat→Option (PV×Heap) := @IOp.rec (fun _=>Env→Fr→Heap→Nat→Option (PV×Heap)) qpb qqJ qss qp5 qr6 qqx qoh qoI qrv qsC qrf qrM qqD qr1 qn6 qpu qpj qpq qq9 qo0 qqX qqk qoH qon qzK qrB qrc qoL qrW qqT qqN qqQ qpz qn7 qps qoj qqo qpP qoN qpZ qrJ qrN qsw qrT qr0 qsj qol qrP qpF op
theorem qIc (op:IOp) (E:Env) (fr:Fr) (H:Heap) (id:Nat):kop op E fr H id=qaa E (rd E fr) H id op:=by
 rw[←qyw];have ko:qgh=Heap.obj:=by funext H o;exact qKy H o
 cases op with
 |mov x=>show qpb x E fr H id=_;simp only[qpb,qaa]<;>rfl
 |pick c a b=>show qqJ c a b E fr H id=_;simp only[qqJ,qaa]<;>rfl
 |alloc k z=>show qss k z E fr H id=_;simp only[qss,qaa]<;>rfl
 |box k x=>show qp5 k x E fr H id=_;simp only[qp5,qaa]<;>rfl
 |agg z parts=>show qr6 z parts E fr H id=_;simp only[qr6,qaa]<;>rfl
 |bsl k z len parts=>show qqx k z len parts E fr H id=_;simp only[qqx,qaa]<;>rfl
 |load k x=>show qoh k x E fr H id=_;simp only[qoh,qaa,qaG]<;>rfl
 |store k x y=>show qoI k x y E fr H id=_;simp only[qoI,qaa,qaK]<;>rfl
 |bin op x y=>show qrv op x y E fr H id=_;simp only[qrv,qaa,qaJ]<;>rfl
 |eqv neg n x y=>show qsC neg n x y E fr H id=_;simp only[qsC,qaa]<;>rfl
 |eqb neg x y=>show qrf neg x y E fr H id=_;simp only[qrf,qaa]<;>rfl
 |isnil neg kd x=>show qrM neg kd x E fr H id=_;simp only[qrM,qaa]<;>rfl
 |un op x=>show qqD op x E fr H id=_;simp only[qqD,qaa]<;>rfl
 |conv k x=>show qr1 k x E fr H id=_;simp only[qr1,qaa]<;>rfl
 |slS x lo hi=>show qn6 x lo hi E fr H id=_;simp only[qn6,qaa]<;>rfl
 |sl k x lo hi mx=>show qpu k x lo hi mx E fr H id=_;simp only[qpu,qaa]<;>rfl
 |faddr off x=>show qpj off x E fr H id=_;simp only[qpj,qaa,qaF]<;>rfl
 |field off k x=>show qpq off k x E fr H id=_;simp only[qpq,qaa]<;>rfl
 |iaddr k x i=>show qq9 k x i E fr H id=_;simp only[qq9,qaa,qaI]<;>rfl
 |iaddrA len k x i=>show qo0 len k x i E fr H id=_;simp only[qo0,qaa,qaF]<;>rfl
 |idxS x i=>show qqX x i E fr H id=_;simp only[qqX,qaa]<;>rfl
 |idxA len k x i=>show qqk len k x i E fr H id=_;simp only[qqk,qaa]<;>rfl
 |len str x=>show qoH str x E fr H id=_;simp only[qoH,qaa,qaH]<;>rfl
 |app k bytes x y=>show qon k bytes x y E fr H id=_;simp only[qon,qaa]<;>rfl
 |call m f args=>match m with
  | 0=>show qrF f args E fr H id=_;simp only[qrF,qaa,qaD]<;>rfl
  | 1=>show qq7 f args E fr H id=_;simp only[qq7,qaa,qaD]<;>rfl
  |m+2=>show qqM f args E fr H id=_;simp only[qqM,qaa,qaD]<;>rfl
 |callv x args=>show qrB x args E fr H id=_;simp only[qrB,qaa,qaD]<;>rfl
 |ext x i=>show qrc x i E fr H id=_;simp only[qrc,qaa]<;>rfl
 |mkf f caps=>show qoL f caps E fr H id=_;simp only[qoL,qaa,qaD]<;>rfl
 |mkm f caps=>show qrW f caps E fr H id=_;simp only[qrW,qaa,qaD]<;>rfl
 |prim p args=>show qqT p args E fr H id=_;simp only[qqT,qaa,qaD]<;>rfl
 |nilck x=>show qqN x E fr H id=_;simp only[qqN,qaa]<;>rfl
 |mksl k bytes z len cap=>show qqQ k bytes z len cap E fr H id=_;simp only[qqQ,qaa]<;>rfl
 |minmax mx args=>show qpz mx args E fr H id=_;simp only[qpz,qaa,qaD]<;>rfl
 |copy k x y=>show qn7 k x y E fr H id=_;simp only[qn7,qaa,ko]<;>rfl
 |clr k z x=>show qps k z x E fr H id=_;simp only[qps,qaa,ko]<;>rfl
 |mkif t x=>show qoj t x E fr H id=_;simp only[qoj,qaa]<;>rfl
 |tas t z ok x=>show qqo t z ok x E fr H id=_;simp only[qqo,qaa]<;>rfl
 |invk tab x args=>show qpP tab x args E fr H id=_;simp only[qpP,qaa,qaD]<;>rfl
 |mkmap  => show qoN  E fr H id=_;simp only[qoN,qaa]<;>rfl
 |mget ky z ok x i=>show qpZ ky z ok x i E fr H id=_;simp only[qpZ,qaa,ko]<;>rfl
 |mset ky x i v=>show qrJ ky x i v E fr H id=_;simp only[qrJ,qaa,ko]<;>rfl
 |mdel ky x i=>show qrN ky x i E fr H id=_;simp only[qrN,qaa,ko]<;>rfl
 |mlen x=>show qsw x E fr H id=_;simp only[qsw,qaa,ko]<;>rfl
 |rngS x=>show qrT x E fr H id=_;simp only[qrT,qaa]<;>rfl
 |nxt x=>show qr0 x E fr H id=_;simp only[qr0,qaa,ko]<;>rfl
 |sb x=>show qsj x E fr H id=_;simp only[qsj,qaa]<;>rfl
 |bs x=>show qol x E fr H id=_;simp only[qol,qaa]<;>rfl
 |dfr x y=>show qrP x y E fr H id=_;simp only[qrP,qaa]<;>rfl
 |bad  => show qpF  E fr H id=_;simp only[qpF,qaa]<;>rfl
def ql8 (d:Option Nat) (fr:Fr) (v:PV):Fr := @Option.rec Nat (fun _=>Fr) fr (fun t=>qqE fr t v) d
abbrev KCf:=Env→Nat→Fr→Heap→Option St
def qm9 (op:IOp) (id:Nat):Nat := @Bool.rec (fun _=>Nat) id (Nat.succ id) op.adds
def kgo (dst:Option Nat) (op:IOp) (ih:KCf) (E:Env) (id:Nat) (fr:Fr) (H:Heap):Option St := @Option.rec (PV×Heap) (fun _=>Option St) none (fun p => @Prod.rec PV Heap (fun _=>Option St) (fun v H'=>ih E (qm9 op id) (ql8 dst fr v) H') p) (kop op E fr H id)
def kno (dst:Option Nat) (op:IOp) (ih:KCf) (E:Env) (id:Nat) (fr:Fr) (H:Heap):Option St:=ih E (qm9 op id) (ql8 dst fr (.t [])) H
def qtt (v:PV) (want:Bool) (go no:Option St):Option St:=match v with
 | .d (.b b)=>if b==want then go else no
 | .t []=>no
 | _=>none
def qpT (dst:Option Nat) (op:IOp) (g:Option (Nat×Bool)) (ih:KCf) (E:Env) (id:Nat) (fr:Fr) (H:Heap):Option St :=
 @Option.rec (Nat×Bool) (fun _=>Option St) (kgo dst op ih E id fr H) (fun p => @Prod.rec Nat Bool (fun _=>Option St) (fun t want=>qtt (qlC fr t) want (kgo dst op ih E id fr H) (kno dst op ih E id fr H)) p) g
def qic (l:List IOper):KCf := @List.rec IOper (fun _=>KCf) (fun _ _ fr H=>some ⟨fr,H⟩) (fun o _ ih => @IOper.rec (fun _=>KCf) (fun dst op g=>qpT dst op g ih) o) l
def qnf (d:Option Nat) (fr:Fr) (v:PV):Fr:=match d with|some t=>fr.set t v|none=>fr
theorem qw3 (E:Env) : ∀(l:List IOper) (id:Nat) (fr:Fr) (H:Heap),qic l E id fr H=qay E l id ⟨fr,H⟩
 | [],id,fr,H=>rfl
 | ⟨dst,op,g⟩::r,id,fr,H=>by
  have ih:=qw3 E r
  have hadd:qm9 op id=if op.adds then id+1 else id:=by unfold qm9;cases op.adds<;>rfl
  have hd : ∀v,ql8 dst fr v=qnf dst fr v:=by intro v;cases dst<;>simp[ql8,qyu,qnf]
  have hgo:kgo dst op (qic r) E id fr H=match qaa E (rd E fr) H id op with|some (v,H')=>qay E r (if op.adds then id+1 else id) ⟨qnf dst fr v,H'⟩|none=>none:=by
   unfold kgo;rw[qIc];cases h:qaa E (rd E fr) H id op with
   |none=>rfl
   |some p=>obtain⟨v,H'⟩:=p;show qic r E _ _ _=_;rw[ih,hadd,hd]
  have hno:kno dst op (qic r) E id fr H=qay E r (if op.adds then id+1 else id) ⟨qnf dst fr (.t []),H⟩:=by
   unfold kno;rw[ih,hadd,hd]
  show qpT dst op g (qic r) E id fr H=_
  unfold qpT;rw[qay,hgo,hno];cases g with
  |none=>cases dst<;>rfl
  |some p =>
   obtain⟨t,want⟩:=p;show qtt (qlC fr t) want _ _=_
   rw[qoC];cases dst<;>rfl
def qnF (ops:List IOper) (kill:List Nat) (E:Env) (fr:Fr) (H:Heap):Option St := @Option.rec St (fun _=>Option St) none (fun s => @St.rec (fun _=>Option St) (fun fr' H'=>some ⟨qk2 kill fr',H'⟩) s) (qic ops E (qg1 H) fr (qkV H (qpv none (qaj ops) [])))
theorem qBD (ops:List IOper) (kill:List Nat) (E:Env) (fr:Fr) (H:Heap):qnF ops kill E fr H=qcd E ops kill ⟨fr,H⟩:=by
 unfold qnF qcd;rw[qw3,qj3,qpH,qth,List.append_nil];cases qay E ops H.length ⟨fr,H++List.replicate (qaj ops) none⟩ with
 |none=>rfl
 |some s=>obtain⟨fr',H'⟩:=s;show some _=_;rw[qwV]
abbrev KR:=Env→((St→Res)→St→Res)→Nat→Fr→Heap→Res
def qtg (r:Res) (f:Fr→Heap→Res):Res := @Option.rec (Ex×St) (fun _=>Res) none (fun p => @Prod.rec Ex St (fun _=>Res) (fun e s => @Ex.rec (fun _=>Res) (@St.rec (fun _=>Res) f s) (fun j=>some (.exit j,s)) (some (.ret,s)) e) p) r
def qJP:KR:=fun _ _ _ fr H=>some (.norm,⟨fr,H⟩)
def qKM (ops:List IOper) (kill:List Nat):KR:=fun E _ _ fr H => @Option.rec St (fun _=>Res) none (fun s=>some (.norm,s)) (qnF ops kill E fr H)
def qF1 (ops:List IOper) (bf kill:List Nat):KR:=fun E _ _ fr H=>match qcR E ops bf kill ⟨fr,H⟩ with|some s'=>some (.norm,s')|none=>none
def qGJ (_ _:PC) (a b:KR):KR:=fun E lp base fr H=>qtg (a E lp base fr H) fun fr H=>b E lp base fr H
def qpy (c:Rand) (_ _:PC) (x y:KR):KR:=fun E lp base fr H=>match krd E fr c with
 | .d (.b true)=>x E lp base fr H
 | .d (.b false)=>y E lp base fr H
 | _=>none
def qw1 (id:Nat) (r:Res):Res := @Option.rec (Ex×St) (fun _=>Res) none (fun p => @Prod.rec Ex St (fun _=>Res) (fun e s => @Ex.rec (fun _=>Res) (some (.norm,s)) (fun j => @Bool.rec (fun _=>Res) (some (.exit j,s)) (some (.norm,s)) (Nat.beq j id)) (some (.ret,s)) e) p) r
def qC9 (id:Nat) (_:PC) (x:KR):KR:=fun E lp base fr H=>qw1 id (x E lp base fr H)
def qtj (live:List Nat) (x:KR) (E:Env) (lp:(St→Res)→St→Res) (base:Nat) (s:St):Res := @St.rec (fun _=>Res) (fun fr H=>x E lp base fr H) (gc live base s)
def qGZ (live:List Nat) (_:PC) (x:KR):KR:=fun E lp base fr H=>lp (qtj live x E lp base) ⟨fr,H⟩
def qzu (f:Rand) (g:Nat) (ps live:List Nat) (a x:PC) (_ _:KR):KR:=fun E lp base fr H=>qah E lp base (.rng f g ps live a x) ⟨fr,H⟩
def qDw (id:Nat):KR:=fun _ _ _ fr H=>some (.exit id,⟨fr,H⟩)
def qES:KR:=fun _ _ _ fr H=>some (.ret,⟨fr,H⟩)
def qBK:KR:=fun _ _ _ _ _=>none
def kev (c:PC):KR := @PC.rec (fun _=>KR) qJP qKM qF1 qGJ qpy qC9 qGZ qzu qDw qES qBK c
theorem qB0 (E:Env) (lp:(St→Res)→St→Res) (base:Nat) : ∀(c:PC) (fr:Fr) (H:Heap),kev c E lp base fr H=qah E lp base c ⟨fr,H⟩:=by
 intro c;induction c with
 |skip=>intro fr H;rfl
 |reg ops kill =>
  intro fr H;show @Option.rec St (fun _=>Res) none (fun s=>some (.norm,s)) (qnF ops kill E fr H)=_
  rw[qBD,qah];cases qcd E ops kill ⟨fr,H⟩<;>rfl
 |regD ops bf kill=>intro fr H;rfl
 |seq a b iha ihb =>
  intro fr H;show qtg (kev a E lp base fr H) (fun fr H=>kev b E lp base fr H)=_
  rw[iha,qah];cases qah E lp base a ⟨fr,H⟩ with
  |none=>rfl
  |some p =>
   obtain⟨e,s⟩:=p;cases e with
   |norm=>obtain⟨fr',H'⟩:=s;exact ihb fr' H'
   |exit j=>rfl
   |ret=>rfl
 |cond c x y ihx ihy =>
  intro fr H;show qpy c x y (kev x) (kev y) E lp base fr H=_
  unfold qpy;rw[qyw,qah,ihx,ihy];rfl
 |block id x ih =>
  intro fr H;show qw1 id (kev x E lp base fr H)=_
  rw[ih,qah];cases qah E lp base x ⟨fr,H⟩ with
  |none=>rfl
  |some p =>
   obtain⟨e,s⟩:=p;cases e with
   |norm=>rfl
   |exit j =>
    show @Bool.rec (fun _=>Res) (some (.exit j,s)) (some (.norm,s)) (Nat.beq j id)=if j==id then _ else _
    have:(j==id)=Nat.beq j id:=by by_cases h:j=id; · { subst h;rw[Nat.beq_refl];simp }; · { rw[qjw h];simpa using h }
    rw[this];cases Nat.beq j id<;>rfl
   |ret=>rfl
 |loop live x ih =>
  intro fr H;show lp (qtj live (kev x) E lp base) ⟨fr,H⟩=_
  rw[qah];congr 1
  funext s
  exact ih _ _
 |rng f g ps live a x iha ihx=>intro fr H;rfl
 |exit id=>intro fr H;rfl
 |ret=>intro fr H;rfl
 |bad=>intro fr H;rfl
def klp (n:Nat):(St→Res)→St→Res := @Nat.rec (fun _=>(St→Res)→St→Res) (fun _ _=>none) (fun _ ih f s => @Option.rec (Ex×St) (fun _=>Res) none (fun p => @Prod.rec Ex St (fun _=>Res) (fun e s' => @Ex.rec (fun _=>Res) (ih f s') (fun j=>some (.exit j,s')) (some (.ret,s')) e) p) (f s)) n
theorem qp7 : ∀n,klp n=lpN n
 | 0=>rfl
 |n+1=>by
  funext f s
  have ih:=qp7 n
  show @Option.rec (Ex×St) (fun _=>Res) none (fun p => @Prod.rec Ex St (fun _=>Res) (fun e s' => @Ex.rec (fun _=>Res) (klp n f s') (fun j=>some (.exit j,s')) (some (.ret,s')) e) p) (f s)=_
  rw[ih,lpN];cases f s with
  |none=>rfl
  |some p=>obtain⟨e,s'⟩:=p;cases e<;>rfl
def qxc (E:Env) (rs:List RV) (s:St):Option (PV×Heap):=match runG E (qaE s.fr) s.H with
   |some H'=>match results s.fr H' rs with
    |some vs=>some (qaZ vs,H')
    |none=>none
   |none=>none
def qrl (E:Env) (rs:List RV) (r:Res):Option (PV×Heap) := @Option.rec (Ex×St) (fun _=>Option (PV×Heap)) none (fun p => @Prod.rec Ex St (fun _=>Option (PV×Heap)) (fun e s => @Ex.rec (fun _=>Option (PV×Heap)) (qxc E rs s) (fun _=>none) (qxc E rs s) e) p) r
def qmz:List PV→Nat→Fr:=fun l => @List.rec PV (fun _=>Nat→Fr) (fun _=>[]) (fun v _ ih j=>qkV (ih (Nat.succ j)) [(j,v)]) l
theorem qvL : ∀(l:List PV) (j:Nat),qmz l j=Fr.ofArgs j l
 | [],j=>rfl
 |v::r,j=>by show qkV (qmz r (j+1)) [(j,v)]=_;rw[qpH,qvL r,Fr.ofArgs]
def kfn (E:Env) (lp:(St→Res)→St→Res) (F:PF) (args:List PV) (H:Heap):Option (PV×Heap) := @PF.rec (fun _=>Option (PV×Heap)) (fun nargs rs body => @Bool.rec (fun _=>Option (PV×Heap)) none (qrl E rs (kev body E lp (qg1 H) (qmz args 0) H)) (Nat.beq (qg1 args) nargs)) F
theorem quC (E:Env) (lp:(St→Res)→St→Res) (F:PF) (args:List PV) (H:Heap):kfn E lp F args H=qa4 E lp F args H:=by
 obtain⟨nargs,rs,body⟩:=F;show @Bool.rec (fun _=>Option (PV×Heap)) none (qrl E rs (kev body E lp (qg1 H) (qmz args 0) H)) (Nat.beq (qg1 args) nargs)=_
 rw[qj3,qj3,qB0,qvL];unfold qa4;by_cases h:args.length=nargs
 ·rw[if_pos h,h,Nat.beq_refl];show qrl E rs (qah E lp H.length body ⟨Fr.ofArgs 0 args,H⟩)=_
  cases qah E lp H.length body ⟨Fr.ofArgs 0 args,H⟩ with
  |none=>rfl
  |some p=>obtain⟨e,s⟩:=p;cases e<;>rfl
 ·rw[if_neg h,qjw h]
abbrev KY:=Nat→List PV→Heap→Option (PV×Heap)
structure KP where
 it:KY→KY
 val:Nat→List DV→Option (PV×Bool)
def qoa (E:Env) (lp:(St→Res)→St→Res) (args:List PV) (H:Heap) (F:PF):Option (PV×Heap) := @Option.rec (PV×Heap) (fun _=>Option (PV×Heap)) none (fun p => @Prod.rec PV Heap (fun _=>Option (PV×Heap)) (fun v H'=>some (gcV (qg1 H) v H')) p) (kfn E lp F args H)
def kit (T:Tab) (n:Nat) (P:KP) (Y:KY) (f:Nat) (args:List PV) (H:Heap):Option (PV×Heap) := @Option.rec PF (fun _=>Option (PV×Heap)) (T.R f args H) (qoa ⟨T.G,P.it noY,P.val,Y,P.it,T.dok⟩ (klp n) args H) (T.F f)
def qq3 (E:Env) (lp:(St→Res)→St→Res) (args:List DV) (F:PF):Option (PV×Bool) := @Option.rec (PV×Heap) (fun _=>Option (PV×Bool)) none (fun p => @Prod.rec PV Heap (fun _=>Option (PV×Bool)) (fun v H'=>purT H' v) p) (kfn E lp F (qcu .d args) [])
def qpJ (T:Tab) (n:Nat) (P:KP) (f:Nat) (args:List DV):Option (PV×Bool) := @Option.rec PF (fun _=>Option (PV×Bool)) (T.X f args) (qq3 ⟨T.G,P.it noY,P.val,noY,P.it,T.dok⟩ (klp n) args) (T.F f)
def kN (T:Tab) (n:Nat):KP := @Nat.rec (fun _=>KP) ⟨fun _ _ _ _=>none,fun _ _=>none⟩ (fun n P=>⟨kit T n P,qpJ T n P⟩) n
theorem qyh (T:Tab) : ∀n,(kN T n).it=itN T n∧(kN T n).val=qcB T n
 | 0=>⟨by funext Y f a H;rw[itN];rfl,by funext f a;rw[qcB];rfl⟩
 |n+1=>by
  obtain⟨h1,h2⟩:=qyh T n;constructor
  ·funext Y f a H
   show kit T n (kN T n) Y f a H=_
   rw[qfu];unfold kit;cases T.F f with
   |none=>rfl
   |some F =>
    show qoa _ (klp n) a H F=_
    unfold qoa;rw[h1,h2,qp7,quC,qj3];show @Option.rec (PV×Heap) (fun _=>Option (PV×Heap)) none _ (qa4 (envY T n Y) (lpN n) F a H)=_
    dsimp only
    cases qa4 (envY T n Y) (lpN n) F a H with
    |none=>rfl
    |some p=>rfl
  ·funext f a
   show qpJ T n (kN T n) f a=_
   rw[qgQ];unfold qpJ;cases T.F f with
   |none=>rfl
   |some F =>
    show qq3 _ (klp n) a F=_
    unfold qq3;rw[h1,h2,qp7,quC,qaD];show @Option.rec (PV×Heap) (fun _=>Option (PV×Bool)) none _ (qa4 (qco T n) (lpN n) F (a.map .d) [])=_
    dsimp only
    cases qa4 (qco T n) (lpN n) F (a.map .d) [] with
    |none=>rfl
    |some p=>rfl
theorem qpV {T:Tab} {f:Nat} {args:List DV} {r:PV×Bool} (n:Nat) (h:(kN T n).val f args=some r):T.val f args=some r:=(qiQ T f args r).2 ⟨n,by rw[←(qyh T n).2];exact h⟩
end
end Go.Sim

