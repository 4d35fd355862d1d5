/- Part 13 of the proof: CbFast. -/
import Derived.Test.YtcihddahcplehaaGreatDoorB3
namespace Go.Sim
noncomputable section
def qlo (fr:Fr) (t:Nat):PV := @List.rec (Nat×PV) (fun _=>PV) .u (fun p _ ih => @Prod.rec Nat PV (fun _=>PV) (fun j v => @Bool.rec (fun _=>PV) ih v (Nat.beq j t)) p) fr
theorem qlr {j t:Nat} (h : ¬j=t):Nat.beq j t=false:=by
 cases e:Nat.beq j t with
 |false=>rfl
 |true=>exact absurd (Nat.eq_of_beq_eq_true e) h
theorem qod : ∀fr t,qlo fr t=Fr.get fr t
 | [],t=>rfl
 | (j,v)::r,t=>by
  have ih:=qod r t
  show @Bool.rec (fun _=>PV) (qlo r t) v (Nat.beq j t)=_
  rw[ih,Fr.get];by_cases h:j=t
  ·subst h;rw[if_pos rfl,Nat.beq_refl]
  ·rw[if_neg h,qlr h]
def qrW (fr:Fr) (t:Nat) (v:PV):Fr := @List.rec (Nat×PV) (fun _=>Fr) [(t,v)] (fun p r ih => @Prod.rec Nat PV (fun _=>Fr) (fun j x => @Bool.rec (fun _=>Fr) (@Bool.rec (fun _=>Fr) ((j,x)::ih) ((t,v)::(j,x)::r) (Nat.ble (Nat.succ j) t)) ((t,v)::r) (Nat.beq j t)) p) fr
theorem qvw : ∀fr t v,qrW fr t v=Fr.set fr t v
 | [],t,v=>rfl
 | (j,x)::r,t,v=>by
  have ih:=qvw r t v
  show @Bool.rec (fun _=>Fr) (@Bool.rec (fun _=>Fr) ((j,x)::qrW r t v) ((t,v)::(j,x)::r) (Nat.ble (Nat.succ j) t)) ((t,v)::r) (Nat.beq j t)=_
  rw[ih,Fr.set];by_cases h:j=t
  ·subst h;rw[if_pos rfl,Nat.beq_refl]
  ·rw[if_neg h,qlr h];show @Bool.rec (fun _=>Fr) _ _ (Nat.ble (Nat.succ j) t)=_
   by_cases h2:j<t
   ·rw[if_pos h2,Nat.ble_eq_true_of_le h2]
   ·rw[if_neg h2,Bool.eq_false_iff.2 (fun e=>h2 (Nat.le_of_ble_eq_true e))]
def qmQ (l:List Nat) (j:Nat):Bool := @List.rec Nat (fun _=>Bool) false (fun x _ ih => @Bool.rec (fun _=>Bool) ih true (Nat.beq x j)) l
theorem qty : ∀l j,qmQ l j=l.contains j
 | [],j=>rfl
 |x::r,j=>by
  have ih:=qty r j
  show @Bool.rec (fun _=>Bool) (qmQ r j) true (Nat.beq x j)=_
  rw[ih,List.contains_cons];by_cases h:x=j
  ·subst h;rw[Nat.beq_refl];simp
  ·rw[qlr h];have:(j==x)=false:=by simpa using fun e=>h e.symm
   rw[this];rfl
def qkg (l:List Nat) (fr:Fr):Fr := @List.rec (Nat×PV) (fun _=>Fr) [] (fun p _ ih => @Prod.rec Nat PV (fun _=>Fr) (fun j v => @Bool.rec (fun _=>Fr) ((j,v)::ih) (@Bool.rec (fun _=>Fr) ((j,v)::ih) ih (Nat.ble (Nat.succ j) 100000)) (qmQ l j)) p) fr
theorem qvv (l:List Nat) : ∀fr,qkg l fr=Fr.drop l fr
 | []=>rfl
 | (j,v)::r=>by
  have ih:=qvv l r
  show @Bool.rec (fun _=>Fr) ((j,v)::qkg l r) (@Bool.rec (fun _=>Fr) ((j,v)::qkg l r) (qkg l r) (Nat.blt j gh)) (qmQ l j)=_
  rw[ih,Fr.drop,qty];cases l.contains j<;>cases Nat.blt j gh<;>rfl
def qcr {α β:Type} (f:α→β) (l:List α):List β := @List.rec α (fun _=>List β) [] (fun x _ ih=>f x::ih) l
theorem qaD {α β:Type} (f:α→β) : ∀l,qcr f l=l.map f
 | []=>rfl
 |x::r=>by show f x::qcr f r=_;rw[qaD f r];rfl
def qjT {α:Type} (l m:List α):List α := @List.rec α (fun _=>List α) m (fun x _ ih=>x::ih) l
theorem qrP {α:Type} : ∀(l m:List α),qjT l m=l++m
 | [],m=>rfl
 |x::r,m=>by show x::qjT r m=_;rw[qrP r m];rfl
def qgS {α:Type} (l:List α):Nat := @List.rec α (fun _=>Nat) 0 (fun _ _ ih=>Nat.succ ih) l
theorem qkM {α:Type} : ∀(l:List α),qgS l=l.length
 | []=>rfl
 |x::r=>by show Nat.succ (qgS r)=_;rw[qkM r];rfl
def qrb {α:Type} (l:List α):Nat→Option α := @List.rec α (fun _=>Nat→Option α) (fun _=>none) (fun x _ ih n => @Nat.rec (fun _=>Option α) (some x) (fun m _=>ih m) n) l
theorem qwM {α:Type} : ∀(l:List α) (n:Nat),qrb l n=l[n]?
 | [],n=>rfl
 |x::r,0=>rfl
 |x::r,n+1=>by show qrb r n=_;rw[qwM r n];rfl
def qp0 {α:Type} (x:α) (n:Nat) (l:List α):List α := @Nat.rec (fun _=>List α) l (fun _ ih=>x::ih) n
theorem qzn {α:Type} (x:α) (l:List α) : ∀n,qp0 x n l=List.replicate n x++l
 | 0=>rfl
 |n+1=>by show x::qp0 x n l=_;rw[qzn x l n];rfl
def qf7 (H:Heap) (o:Nat):Option Obj := @Option.rec (Option Obj) (fun _=>Option Obj) none (fun x=>x) (qrb H o)
theorem qAi (H:Heap) (o:Nat):qf7 H o=Heap.obj H o:=by
 unfold qf7 Heap.obj;rw[qwM];cases H[o]? <;> rfl
def krd (E:Env) (fr:Fr) (x:Rand):PV := @Rand.rec (fun _=>PV) (fun t=>qlo fr t) (fun v=>.d v) (fun n=>match E.G n with|some (v,k)=>.q v k 0|none=>.u) (fun n=>.f n []) x
theorem qvn (E:Env) (fr:Fr):krd E fr=rd E fr:=by
 funext x
 cases x with
 |t n=>exact qod fr n
 |c v=>rfl
 |f n=>rfl
 |g n=>simp only[krd,rd];cases E.G n<;>rfl
def qaH:Heap→K→PV→Option PV:=qbl
def qaI:Heap→K→PV→PV→Option Heap:=qb4
def qaJ:Heap→K→PV→PV→Option PV:=iaddr
def qaK:BinOp→PV→PV→Option DV:=qaX
def qaG:Nat→PV→Option PV:=qfw
def qaL:Heap→Bool→PV→Option Nat:=qbx
def qqB (x:Rand) (E:Env) (fr:Fr) (H:Heap) (id:Nat):Option (PV×Heap):=some (krd E fr x,H)
def qsD (c:Rand) (a:Rand) (b:Rand) (E:Env) (fr:Fr) (H:Heap) (id:Nat):Option (PV×Heap):=match krd E fr c with
  | .d (.b true)=>some (krd E fr a,H)
  | .d (.b false)=>some (krd E fr b,H)
  | _=>none
def qn5 (k:K) (z:DV) (E:Env) (fr:Fr) (H:Heap) (id:Nat):Option (PV×Heap):=some (.p id 0 0,H.put id (some (.box k (.d z))))
def qr7 (k:K) (x:Rand) (E:Env) (fr:Fr) (H:Heap) (id:Nat):Option (PV×Heap):=if fits k (krd E fr x) then some (.p id 0 0,H.put id (some (.box k (krd E fr x)))) else none
def qsp (z:List DV) (parts:List (Nat×K×Rand)) (E:Env) (fr:Fr) (H:Heap) (id:Nat):Option (PV×Heap):=match qck (z.map .d) (parts.map fun x=>(x.1,x.2.1,krd E fr x.2.2)) with
  |some cs=>some (mkA cs,H)
  |none=>none
def qq3 (k:K) (z:DV) (len:Nat) (parts:List (Nat×Rand)) (E:Env) (fr:Fr) (H:Heap) (id:Nat):Option (PV×Heap):=match qbb H k (List.replicate len z) (parts.map fun x=>(x.1,krd E fr x.2)) with
  |some (es,os)=>some (.r id k 0 len true,(frz H os).put id (some (.sl k 0 es)))
  |none=>none
def qpk (k:K) (x:Rand) (E:Env) (fr:Fr) (H:Heap) (id:Nat):Option (PV×Heap):=opt (qaH H k (krd E fr x)) H
def qpO (k:K) (x:Rand) (y:Rand) (E:Env) (fr:Fr) (H:Heap) (id:Nat):Option (PV×Heap):=match qaI H k (krd E fr x) (krd E fr y) with|some H'=>some (.u,H')|none=>none
def qot (op:BinOp) (x:Rand) (y:Rand) (E:Env) (fr:Fr) (H:Heap) (id:Nat):Option (PV×Heap):=qfv (qaK op (krd E fr x) (krd E fr y)) H
def qpX (neg:Bool) (n:List Nat) (x:Rand) (y:Rand) (E:Env) (fr:Fr) (H:Heap) (id:Nat):Option (PV×Heap):=match eqA n (krd E fr x) (krd E fr y) with
  |some e=>some (.d (.b (if neg then !e else e)),H)
  |none=>none
def qrq (neg:Bool) (x:Rand) (y:Rand) (E:Env) (fr:Fr) (H:Heap) (id:Nat):Option (PV×Heap):=match krd E fr x,krd E fr y with
  | .d (.b a),.d (.b b)=>some (.d (.b (if neg then !(a==b) else a==b)),H)
  | _,_=>none
def qr3 (neg:Bool) (kd:Nat) (x:Rand) (E:Env) (fr:Fr) (H:Heap) (id:Nat):Option (PV×Heap):=match qgu kd (krd E fr x) with|some b=>some (.d (.b (if neg then !b else b)),H)|none=>none
def qqL (op:UnOp) (x:Rand) (E:Env) (fr:Fr) (H:Heap) (id:Nat):Option (PV×Heap):=qfv (unA op (krd E fr x)) H
def qpe (k:IntKind) (x:Rand) (E:Env) (fr:Fr) (H:Heap) (id:Nat):Option (PV×Heap):=match krd E fr x with | .d (.i _ n)=>some (.d (.i k (k.wrap n)),H)|_=>none
def qrT (x:Rand) (lo:Option Rand) (hi:Option Rand) (E:Env) (fr:Fr) (H:Heap) (id:Nat):Option (PV×Heap):=match krd E fr x with
  | .d (.s s)=>match bnd s.length s.length (hi.map (krd E fr)) with
   |some h=>match bnd 0 h (lo.map (krd E fr)) with
    |some l=>some (.d (.s ((s.take h).drop l)),H)
    |none=>none
   |none=>none
  | _=>none
def qpr (k:K) (x:Rand) (lo:Option Rand) (hi:Option Rand) (mx:Option Rand) (E:Env) (fr:Fr) (H:Heap) (id:Nat):Option (PV×Heap):=opt (slA H k (krd E fr x) (lo.map (krd E fr)) (hi.map (krd E fr)) (mx.map (krd E fr))) H
def qrn (off:Nat) (x:Rand) (E:Env) (fr:Fr) (H:Heap) (id:Nat):Option (PV×Heap):=opt (qaG off (krd E fr x)) H
def qo7 (off:Nat) (k:K) (x:Rand) (E:Env) (fr:Fr) (H:Heap) (id:Nat):Option (PV×Heap):=opt (qdk off k (krd E fr x)) H
def qoS (k:K) (x:Rand) (i:Rand) (E:Env) (fr:Fr) (H:Heap) (id:Nat):Option (PV×Heap):=opt (qaJ H k (krd E fr x) (krd E fr i)) H
def qpG (len:Nat) (k:K) (x:Rand) (i:Rand) (E:Env) (fr:Fr) (H:Heap) (id:Nat):Option (PV×Heap):=match asI (krd E fr i) with
  |some n=>match inR n len with|some j=>opt (qaG (j*k.size) (krd E fr x)) H|none=>none
  |none=>none
def qsF (x:Rand) (i:Rand) (E:Env) (fr:Fr) (H:Heap) (id:Nat):Option (PV×Heap):=match krd E fr x,asI (krd E fr i) with
  | .d (.s s),some n=>if 0≤n then match s[n.toNat]? with
   |some b=>some (.d (.i .u8 b.toNat),H)
   |none=>none
   else none
  | _,_=>none
def qo6 (len:Nat) (k:K) (x:Rand) (i:Rand) (E:Env) (fr:Fr) (H:Heap) (id:Nat):Option (PV×Heap):=match asI (krd E fr i) with
  |some n=>match inR n len with
   |some j=>opt (qdk (j*k.size) k (krd E fr x)) H
   |none=>none
  |none=>none
def qqq (str:Bool) (x:Rand) (E:Env) (fr:Fr) (H:Heap) (id:Nat):Option (PV×Heap):=match qaL H str (krd E fr x) with|some n=>some (.d (.i .i64 n),H)|none=>none
def qoU (k:K) (bytes:Nat) (x:Rand) (y:Rand) (E:Env) (fr:Fr) (H:Heap) (id:Nat):Option (PV×Heap):=qcn H id k bytes (krd E fr x) (krd E fr y)
def qpQ (f:Nat) (args:List Rand) (E:Env) (fr:Fr) (H:Heap) (id:Nat):Option (PV×Heap):=match qaM H (qcr (krd E fr) args) with
  |some (ds,os)=>match E.val f ds with
   |some (r,_)=>some (r,if os.isEmpty||r.scal then H else frz H os)
   |none=>none
  |none=>none
def qrI (f:Nat) (args:List Rand) (E:Env) (fr:Fr) (H:Heap) (id:Nat):Option (PV×Heap):=match qaM H (qcr (krd E fr) args) with
  |some (ds,os)=>match E.val f ds with
   |some (.d (.l k es _),true)=>some (.r id k 0 es.length false,(if os.isEmpty then H else frz H os).put id (some (.sl k 0 es)))
   | _=>none
  |none=>none
def qrU (f:Nat) (args:List Rand) (E:Env) (fr:Fr) (H:Heap) (id:Nat):Option (PV×Heap):=E.ref f (qcr (krd E fr) args) H
def qFQ (mode f:Nat) (args:List Rand):Env→Fr→Heap→Nat→Option (PV×Heap) := @Nat.rec (fun _=>Env→Fr→Heap→Nat→Option (PV×Heap)) (qpQ f args) (fun m _ => @Nat.rec (fun _=>Env→Fr→Heap→Nat→Option (PV×Heap)) (qrI f args) (fun _ _=>qrU f args) m) mode
def qq5 (x:Rand) (args:List Rand) (E:Env) (fr:Fr) (H:Heap) (id:Nat):Option (PV×Heap):=match krd E fr x with
  | .f n caps=>match (if caps.isEmpty then qa0 (qcr (krd E fr) args) else none) with
   |some ds=>match E.val n ds with
    |some (r,_)=>some (r,H)
    |none=>none
   |none=>E.ref n (qcr (krd E fr) args++caps) H
  | .m n firsts=>match qa0 (firsts++qcr (krd E fr) args) with
   |some ds=>match E.val n ds with
    |some (r,_)=>some (r,H)
    |none=>none
   |none=>E.ref n (firsts++qcr (krd E fr) args) H
  | .h o=>E.yld o (qcr (krd E fr) args) H
  | _=>none
def qpq (x:Rand) (i:Nat) (E:Env) (fr:Fr) (H:Heap) (id:Nat):Option (PV×Heap):=match krd E fr x with
  | .t vs=>opt vs[i]? H
  | _=>none
def qre (f:Nat) (caps:List Rand) (E:Env) (fr:Fr) (H:Heap) (id:Nat):Option (PV×Heap):=some (.f f (qcr (krd E fr) caps),H)
def qqG (f:Nat) (caps:List Rand) (E:Env) (fr:Fr) (H:Heap) (id:Nat):Option (PV×Heap):=some (.m f (qcr (krd E fr) caps),H)
def qq9 (p:Nat) (args:List Rand) (E:Env) (fr:Fr) (H:Heap) (id:Nat):Option (PV×Heap):=opt (qi2 p (qcr (krd E fr) args)) H
def qqa (x:Rand) (E:Env) (fr:Fr) (H:Heap) (id:Nat):Option (PV×Heap):=match krd E fr x with
  | .p o i c=>some (.p o i c,H)
  | .q v k c=>some (.q v k c,H)
  | .f n cs=>some (.f n cs,H)
  | _=>none
def qsy (k:K) (bytes:Nat) (z:DV) (len:Rand) (cap:Rand) (E:Env) (fr:Fr) (H:Heap) (id:Nat):Option (PV×Heap):=match asI (krd E fr len),asI (krd E fr cap) with
  |some n,some c=>if 0≤n∧n≤c∧c*bytes≤2^47 then some (.r id k 0 n.toNat false,H.put id (some (.sl k 0 (List.replicate n.toNat z)))) else none
  | _,_=>none
def qsj (mx:Bool) (args:List Rand) (E:Env) (fr:Fr) (H:Heap) (id:Nat):Option (PV×Heap):=match qcr (krd E fr) args with
  |v::r=>opt (mmA mx v r) H
  | []=>none
def qra (k:K) (x:Rand) (y:Rand) (E:Env) (fr:Fr) (H:Heap) (id:Nat):Option (PV×Heap):=match krd E fr x with
  | .r o k' off len _=>match qf7 H o,qaW H k (krd E fr y) with
   |some (.sl k'' ro es),some ys =>
    if K.eq k k'&&K.eq k k''&&decide (off+len≤es.length)&&decide (ro≤off) then
     let n:=min ys.length len
     some (.d (.i .i64 n),H.put o (some (.sl k ro (putAt es off (ys.take n)))))
    else none
   | _,_=>none
  | _=>none
def qn7 (k:K) (z:DV) (x:Rand) (E:Env) (fr:Fr) (H:Heap) (id:Nat):Option (PV×Heap):=match krd E fr x with
  | .r o k' off len _=>match qf7 H o with
   |some (.sl k'' ro es) =>
    if K.eq k k'&&K.eq k k''&&decide (off+len≤es.length)&&decide (ro≤off) then some (.t [],H.put o (some (.sl k ro (putAt es off (List.replicate len z))))) else none
   | _=>none
  | .d (.l _ [] _)=>some (.t [],H)
  | _=>none
def qsr (t:Nat) (x:Rand) (E:Env) (fr:Fr) (H:Heap) (id:Nat):Option (PV×Heap):=match pur H (krd E fr x) with
  |some (v,os)=>some (.d (.ifc t v),frz H os)
  |none=>some (.w t (krd E fr x),H)
def qq6 (t:Nat) (z:DV) (ok:Bool) (x:Rand) (E:Env) (fr:Fr) (H:Heap) (id:Nat):Option (PV×Heap):=match krd E fr x with
  | .d (.ifc u v)=>if u=t then some (if ok then .t [.d v,.d (.b true)] else .d v,H) else if ok then some (.t [.d z,.d (.b false)],H) else none
  | .w u v=>if u=t then some (if ok then .t [v,.d (.b true)] else v,H) else if ok then some (.t [.d z,.d (.b false)],H) else none
  | .d .ni=>if ok then some (.t [.d z,.d (.b false)],H) else none
  | _=>none
def qsq (tab:List (Nat×Nat×Nat)) (x:Rand) (args:List Rand) (E:Env) (fr:Fr) (H:Heap) (id:Nat):Option (PV×Heap):=match krd E fr x with
  | .d (.ifc u v)=>match qhT u tab with
   |some (0,f)=>match qaM H (qcr (krd E fr) args) with
    |some (ds,os)=>match E.val f (v::ds) with
     |some (r,_)=>some (r,if os.isEmpty||r.scal then H else frz H os)
     |none=>none
    |none=>none
   |some (_,f)=>E.ref f (.d v::qcr (krd E fr) args) H
   |none=>none
  | _=>none
def qov  (E:Env) (fr:Fr) (H:Heap) (id:Nat):Option (PV×Heap):=some (.h id,H.put id (some (.mp [])))
def qom (ky:Ky) (z:DV) (ok:Bool) (x:Rand) (i:Rand) (E:Env) (fr:Fr) (H:Heap) (id:Nat):Option (PV×Heap):=match krd E fr i,krd E fr x with
  | .d k,.h o=>if qf8 ky k then match qf7 H o with
   |some (.mp es)=>match qcL k es with
    |some r=>some (if ok then .t [.d (r.getD z),.d (.b r.isSome)] else .d (r.getD z),H)
    |none=>none
   | _=>none
   else none
  | _,_=>none
def qoq (ky:Ky) (x:Rand) (i:Rand) (v:Rand) (E:Env) (fr:Fr) (H:Heap) (id:Nat):Option (PV×Heap):=match krd E fr i,krd E fr x,pur H (krd E fr v) with
  | .d k,.h o,some (xv,os)=>if qf8 ky k then match qf7 H o with
   |some (.mp es)=>match qcJ k xv es with
    |some es'=>some (.u,(frz H os).put o (some (.mp es')))
    |none=>none
   | _=>none
   else none
  | _,_,_=>none
def qrV (ky:Ky) (x:Rand) (i:Rand) (E:Env) (fr:Fr) (H:Heap) (id:Nat):Option (PV×Heap):=match krd E fr i,krd E fr x with
  | .d k,.h o=>if qf8 ky k then match qf7 H o with
   |some (.mp es)=>match qrz k es with
    |some es'=>some (.u,H.put o (some (.mp es')))
    |none=>none
   | _=>none
   else none
  | _,_=>none
def qo9 (x:Rand) (E:Env) (fr:Fr) (H:Heap) (id:Nat):Option (PV×Heap):=match krd E fr x with
  | .h o=>match qf7 H o with
   |some (.mp es)=>some (.d (.i .i64 es.length),H)
   | _=>none
  | _=>none
def qsf (x:Rand) (E:Env) (fr:Fr) (H:Heap) (id:Nat):Option (PV×Heap):=match krd E fr x with
  | .d (.s l)=>some (.h id,H.put id (some (.si l 0)))
  | _=>none
def qsb (x:Rand) (E:Env) (fr:Fr) (H:Heap) (id:Nat):Option (PV×Heap):=match krd E fr x with
  | .h o=>match qf7 H o with
   |some (.si l pos) =>
    if pos<l.length then
     let c:=Utf8.decode ⟨l.toArray⟩ pos
     some (.t [.d (.b true),.d (.i .i64 pos),.d (.i .i32 c.1)],H.put o (some (.si l (pos+c.2))))
    else some (.t [.d (.b false)],H)
   | _=>none
  | _=>none
def qqt (x:Rand) (E:Env) (fr:Fr) (H:Heap) (id:Nat):Option (PV×Heap):=match krd E fr x with
  | .d (.s _)=>none
  |y=>match qaW H none y with
   |some es=>match qie es with|some l=>some (.d (.s l),H)|none=>none
   |none=>none
def qps (x:Rand) (E:Env) (fr:Fr) (H:Heap) (id:Nat):Option (PV×Heap):=match krd E fr x with
  | .d (.s l)=>some (.d (.l none (bytesOf l) false),H)
  | _=>none
def qsz (x:Rand) (y:Rand) (E:Env) (fr:Fr) (H:Heap) (id:Nat):Option (PV×Heap):=match krd E fr x,krd E fr y with
  | .f n caps,.u=>some (.g (.f n caps),H)
  | _,_=>none
def qpJ  (E:Env) (fr:Fr) (H:Heap) (id:Nat):Option (PV×Heap):=none
def kop (op:IOp):Env→Fr→Heap→Nat→Option (PV×Heap) := @IOp.rec (fun _=>Env→Fr→Heap→Nat→Option (PV×Heap)) qqB qsD qn5 qr7 qsp qq3 qpk qpO qot qpX qrq qr3 qqL qpe qrT qpr qrn qo7 qoS qpG qsF qo6 qqq qoU qFQ qq5 qpq qre qqG qq9 qqa qsy qsj qra qn7 qsr qq6 qsq qov qom qoq qrV qo9 qsf qsb qqt qps qsz qpJ op
theorem qIM (op:IOp) (E:Env) (fr:Fr) (H:Heap) (id:Nat):kop op E fr H id=qaa E (rd E fr) H id op:=by
 rw[←qvn];have ko:qf7=Heap.obj:=by funext H o;exact qAi H o
 cases op with
 |mov x=>show qqB x E fr H id=_;simp only[qqB,qaa,qaD,ko,qaH,qaI,qaJ,qaK,qaG,qaL]<;>rfl
 |pick c a b=>show qsD c a b E fr H id=_;simp only[qsD,qaa,qaD,ko,qaH,qaI,qaJ,qaK,qaG,qaL]<;>rfl
 |alloc k z=>show qn5 k z E fr H id=_;simp only[qn5,qaa,qaD,ko,qaH,qaI,qaJ,qaK,qaG,qaL]<;>rfl
 |box k x=>show qr7 k x E fr H id=_;simp only[qr7,qaa,qaD,ko,qaH,qaI,qaJ,qaK,qaG,qaL]<;>rfl
 |agg z parts=>show qsp z parts E fr H id=_;simp only[qsp,qaa,qaD,ko,qaH,qaI,qaJ,qaK,qaG,qaL]<;>rfl
 |bsl k z len parts=>show qq3 k z len parts E fr H id=_;simp only[qq3,qaa,qaD,ko,qaH,qaI,qaJ,qaK,qaG,qaL]<;>rfl
 |load k x=>show qpk k x E fr H id=_;simp only[qpk,qaa,qaD,ko,qaH,qaI,qaJ,qaK,qaG,qaL]<;>rfl
 |store k x y=>show qpO k x y E fr H id=_;simp only[qpO,qaa,qaD,ko,qaH,qaI,qaJ,qaK,qaG,qaL]<;>rfl
 |bin op x y=>show qot op x y E fr H id=_;simp only[qot,qaa,qaD,ko,qaH,qaI,qaJ,qaK,qaG,qaL]<;>rfl
 |eqv neg n x y=>show qpX neg n x y E fr H id=_;simp only[qpX,qaa,qaD,ko,qaH,qaI,qaJ,qaK,qaG,qaL]<;>rfl
 |eqb neg x y=>show qrq neg x y E fr H id=_;simp only[qrq,qaa,qaD,ko,qaH,qaI,qaJ,qaK,qaG,qaL]<;>rfl
 |isnil neg kd x=>show qr3 neg kd x E fr H id=_;simp only[qr3,qaa,qaD,ko,qaH,qaI,qaJ,qaK,qaG,qaL]<;>rfl
 |un op x=>show qqL op x E fr H id=_;simp only[qqL,qaa,qaD,ko,qaH,qaI,qaJ,qaK,qaG,qaL]<;>rfl
 |conv k x=>show qpe k x E fr H id=_;simp only[qpe,qaa,qaD,ko,qaH,qaI,qaJ,qaK,qaG,qaL]<;>rfl
 |slS x lo hi=>show qrT x lo hi E fr H id=_;simp only[qrT,qaa,qaD,ko,qaH,qaI,qaJ,qaK,qaG,qaL]<;>rfl
 |sl k x lo hi mx=>show qpr k x lo hi mx E fr H id=_;simp only[qpr,qaa,qaD,ko,qaH,qaI,qaJ,qaK,qaG,qaL]<;>rfl
 |faddr off x=>show qrn off x E fr H id=_;simp only[qrn,qaa,qaD,ko,qaH,qaI,qaJ,qaK,qaG,qaL]<;>rfl
 |field off k x=>show qo7 off k x E fr H id=_;simp only[qo7,qaa,qaD,ko,qaH,qaI,qaJ,qaK,qaG,qaL]<;>rfl
 |iaddr k x i=>show qoS k x i E fr H id=_;simp only[qoS,qaa,qaD,ko,qaH,qaI,qaJ,qaK,qaG,qaL]<;>rfl
 |iaddrA len k x i=>show qpG len k x i E fr H id=_;simp only[qpG,qaa,qaD,ko,qaH,qaI,qaJ,qaK,qaG,qaL]<;>rfl
 |idxS x i=>show qsF x i E fr H id=_;simp only[qsF,qaa,qaD,ko,qaH,qaI,qaJ,qaK,qaG,qaL]<;>rfl
 |idxA len k x i=>show qo6 len k x i E fr H id=_;simp only[qo6,qaa,qaD,ko,qaH,qaI,qaJ,qaK,qaG,qaL]<;>rfl
 |len str x=>show qqq str x E fr H id=_;simp only[qqq,qaa,qaD,ko,qaH,qaI,qaJ,qaK,qaG,qaL]<;>rfl
 |app k bytes x y=>show qoU k bytes x y E fr H id=_;simp only[qoU,qaa,qaD,ko,qaH,qaI,qaJ,qaK,qaG,qaL]<;>rfl
 |call m f args=>match m with
  | 0=>show qpQ f args E fr H id=_;simp only[qpQ,qaa,qaD,ko]<;>rfl
  | 1=>show qrI f args E fr H id=_;simp only[qrI,qaa,qaD,ko]<;>rfl
  |m+2=>show qrU f args E fr H id=_;simp only[qrU,qaa,qaD,ko]<;>rfl
 |callv x args=>show qq5 x args E fr H id=_;simp only[qq5,qaa,qaD,ko,qaH,qaI,qaJ,qaK,qaG,qaL]<;>rfl
 |ext x i=>show qpq x i E fr H id=_;simp only[qpq,qaa,qaD,ko,qaH,qaI,qaJ,qaK,qaG,qaL]<;>rfl
 |mkf f caps=>show qre f caps E fr H id=_;simp only[qre,qaa,qaD,ko,qaH,qaI,qaJ,qaK,qaG,qaL]<;>rfl
 |mkm f caps=>show qqG f caps E fr H id=_;simp only[qqG,qaa,qaD,ko,qaH,qaI,qaJ,qaK,qaG,qaL]<;>rfl
 |prim p args=>show qq9 p args E fr H id=_;simp only[qq9,qaa,qaD,ko,qaH,qaI,qaJ,qaK,qaG,qaL]<;>rfl
 |nilck x=>show qqa x E fr H id=_;simp only[qqa,qaa,qaD,ko,qaH,qaI,qaJ,qaK,qaG,qaL]<;>rfl
 |mksl k bytes z len cap=>show qsy k bytes z len cap E fr H id=_;simp only[qsy,qaa,qaD,ko,qaH,qaI,qaJ,qaK,qaG,qaL]<;>rfl
 |minmax mx args=>show qsj mx args E fr H id=_;simp only[qsj,qaa,qaD,ko,qaH,qaI,qaJ,qaK,qaG,qaL]<;>rfl
 |copy k x y=>show qra k x y E fr H id=_;simp only[qra,qaa,qaD,ko,qaH,qaI,qaJ,qaK,qaG,qaL]<;>rfl
 |clr k z x=>show qn7 k z x E fr H id=_;simp only[qn7,qaa,qaD,ko,qaH,qaI,qaJ,qaK,qaG,qaL]<;>rfl
 |mkif t x=>show qsr t x E fr H id=_;simp only[qsr,qaa,qaD,ko,qaH,qaI,qaJ,qaK,qaG,qaL]<;>rfl
 |tas t z ok x=>show qq6 t z ok x E fr H id=_;simp only[qq6,qaa,qaD,ko,qaH,qaI,qaJ,qaK,qaG,qaL]<;>rfl
 |invk tab x args=>show qsq tab x args E fr H id=_;simp only[qsq,qaa,qaD,ko,qaH,qaI,qaJ,qaK,qaG,qaL]<;>rfl
 |mkmap  => show qov  E fr H id=_;simp only[qov,qaa,qaD,ko,qaH,qaI,qaJ,qaK,qaG,qaL]<;>rfl
 |mget ky z ok x i=>show qom ky z ok x i E fr H id=_;simp only[qom,qaa,qaD,ko,qaH,qaI,qaJ,qaK,qaG,qaL]<;>rfl
 |mset ky x i v=>show qoq ky x i v E fr H id=_;simp only[qoq,qaa,qaD,ko,qaH,qaI,qaJ,qaK,qaG,qaL]<;>rfl
 |mdel ky x i=>show qrV ky x i E fr H id=_;simp only[qrV,qaa,qaD,ko,qaH,qaI,qaJ,qaK,qaG,qaL]<;>rfl
 |mlen x=>show qo9 x E fr H id=_;simp only[qo9,qaa,qaD,ko,qaH,qaI,qaJ,qaK,qaG,qaL]<;>rfl
 |rngS x=>show qsf x E fr H id=_;simp only[qsf,qaa,qaD,ko,qaH,qaI,qaJ,qaK,qaG,qaL]<;>rfl
 |nxt x=>show qsb x E fr H id=_;simp only[qsb,qaa,qaD,ko,qaH,qaI,qaJ,qaK,qaG,qaL]<;>rfl
 |sb x=>show qqt x E fr H id=_;simp only[qqt,qaa,qaD,ko,qaH,qaI,qaJ,qaK,qaG,qaL]<;>rfl
 |bs x=>show qps x E fr H id=_;simp only[qps,qaa,qaD,ko,qaH,qaI,qaJ,qaK,qaG,qaL]<;>rfl
 |dfr x y=>show qsz x y E fr H id=_;simp only[qsz,qaa,qaD,ko,qaH,qaI,qaJ,qaK,qaG,qaL]<;>rfl
 |bad  => show qpJ  E fr H id=_;simp only[qpJ,qaa,qaD,ko,qaH,qaI,qaJ,qaK,qaG,qaL]<;>rfl
def qlG (d:Option Nat) (fr:Fr) (v:PV):Fr := @Option.rec Nat (fun _=>Fr) fr (fun t=>qrW fr t v) d
abbrev KCf:=Env→Nat→Fr→Heap→Option St
def qlU (op:IOp) (id:Nat):Nat := @Bool.rec (fun _=>Nat) id (Nat.succ id) op.adds
def kgo (dst:Option Nat) (op:IOp) (ih:KCf) (E:Env) (id:Nat) (fr:Fr) (H:Heap):Option St := @Option.rec (PV×Heap) (fun _=>Option St) none (fun p => @Prod.rec PV Heap (fun _=>Option St) (fun v H'=>ih E (qlU op id) (qlG dst fr v) H') p) (kop op E fr H id)
def kno (dst:Option Nat) (op:IOp) (ih:KCf) (E:Env) (id:Nat) (fr:Fr) (H:Heap):Option St:=ih E (qlU op id) (qlG dst fr (.t [])) H
def qxE (v:PV) (want:Bool) (go no:Option St):Option St:=match v with
 | .d (.b b)=>if b==want then go else no
 | .t []=>no
 | _=>none
def qnY (dst:Option Nat) (op:IOp) (g:Option (Nat×Bool)) (ih:KCf) (E:Env) (id:Nat) (fr:Fr) (H:Heap):Option St :=
 @Option.rec (Nat×Bool) (fun _=>Option St) (kgo dst op ih E id fr H) (fun p => @Prod.rec Nat Bool (fun _=>Option St) (fun t want=>qxE (qlo fr t) want (kgo dst op ih E id fr H) (kno dst op ih E id fr H)) p) g
def qiS (l:List IOper):KCf := @List.rec IOper (fun _=>KCf) (fun _ _ fr H=>some ⟨fr,H⟩) (fun o _ ih => @IOper.rec (fun _=>KCf) (fun dst op g=>qnY dst op g ih) o) l
def ql5 (d:Option Nat) (fr:Fr) (v:PV):Fr:=match d with|some t=>fr.set t v|none=>fr
theorem qxa (E:Env) : ∀(l:List IOper) (id:Nat) (fr:Fr) (H:Heap),qiS l E id fr H=qay E l id ⟨fr,H⟩
 | [],id,fr,H=>rfl
 | ⟨dst,op,g⟩::r,id,fr,H=>by
  have ih:=qxa E r
  have hadd:qlU op id=if op.adds then id+1 else id:=by unfold qlU;cases op.adds<;>rfl
  have hd : ∀v,qlG dst fr v=ql5 dst fr v:=by intro v;cases dst<;>simp[qlG,qvw,ql5]
  have hgo:kgo dst op (qiS r) E id fr H=match qaa E (rd E fr) H id op with|some (v,H')=>qay E r (if op.adds then id+1 else id) ⟨ql5 dst fr v,H'⟩|none=>none:=by
   unfold kgo;rw[qIM];cases h:qaa E (rd E fr) H id op with
   |none=>rfl
   |some p=>obtain⟨v,H'⟩:=p;show qiS r E _ _ _=_;rw[ih,hadd,hd]
  have hno:kno dst op (qiS r) E id fr H=qay E r (if op.adds then id+1 else id) ⟨ql5 dst fr (.t []),H⟩:=by
   unfold kno;rw[ih,hadd,hd]
  show qnY dst op g (qiS r) E id fr H=_
  unfold qnY;rw[qay,hgo,hno];cases g with
  |none=>cases dst<;>rfl
  |some p =>
   obtain⟨t,want⟩:=p;show qxE (qlo fr t) want _ _=_
   rw[qod];cases dst<;>rfl
def qmh (ops:List IOper) (kill:List Nat) (E:Env) (fr:Fr) (H:Heap):Option St := @Option.rec St (fun _=>Option St) none (fun s => @St.rec (fun _=>Option St) (fun fr' H'=>some ⟨qkg kill fr',H'⟩) s) (qiS ops E (qgS H) fr (qjT H (qp0 none (qak ops) [])))
theorem qHD (ops:List IOper) (kill:List Nat) (E:Env) (fr:Fr) (H:Heap):qmh ops kill E fr H=qcd E ops kill ⟨fr,H⟩:=by
 unfold qmh qcd;rw[qxa,qkM,qrP,qzn,List.append_nil];cases qay E ops H.length ⟨fr,H++List.replicate (qak ops) none⟩ with
 |none=>rfl
 |some s=>obtain⟨fr',H'⟩:=s;show some _=_;rw[qvv]
abbrev KR:=Env→((St→Res)→St→Res)→Nat→Fr→Heap→Res
def qtI (r:Res) (f:Fr→Heap→Res):Res := @Option.rec (Ex×St) (fun _=>Res) none (fun p => @Prod.rec Ex St (fun _=>Res) (fun e s => @Ex.rec (fun _=>Res) (@St.rec (fun _=>Res) f s) (fun j=>some (.exit j,s)) (some (.ret,s)) e) p) r
def qKb:KR:=fun _ _ _ fr H=>some (.norm,⟨fr,H⟩)
def qKW (ops:List IOper) (kill:List Nat):KR:=fun E _ _ fr H => @Option.rec St (fun _=>Res) none (fun s=>some (.norm,s)) (qmh ops kill E fr H)
def qDp (ops:List IOper) (bf kill:List Nat):KR:=fun E _ _ fr H=>match qcS E ops bf kill ⟨fr,H⟩ with|some s'=>some (.norm,s')|none=>none
def qFv (_ _:PC) (a b:KR):KR:=fun E lp base fr H=>qtI (a E lp base fr H) fun fr H=>b E lp base fr H
def qqO (c:Rand) (_ _:PC) (x y:KR):KR:=fun E lp base fr H=>match krd E fr c with
 | .d (.b true)=>x E lp base fr H
 | .d (.b false)=>y E lp base fr H
 | _=>none
def qxD (id:Nat) (r:Res):Res := @Option.rec (Ex×St) (fun _=>Res) none (fun p => @Prod.rec Ex St (fun _=>Res) (fun e s => @Ex.rec (fun _=>Res) (some (.norm,s)) (fun j => @Bool.rec (fun _=>Res) (some (.exit j,s)) (some (.norm,s)) (Nat.beq j id)) (some (.ret,s)) e) p) r
def qFp (id:Nat) (_:PC) (x:KR):KR:=fun E lp base fr H=>qxD id (x E lp base fr H)
def qw9 (live:List Nat) (x:KR) (E:Env) (lp:(St→Res)→St→Res) (base:Nat) (s:St):Res := @St.rec (fun _=>Res) (fun fr H=>x E lp base fr H) (gc live base s)
def qLa (live:List Nat) (_:PC) (x:KR):KR:=fun E lp base fr H=>lp (qw9 live x E lp base) ⟨fr,H⟩
def qDa (f:Rand) (g:Nat) (ps live:List Nat) (a x:PC) (_ _:KR):KR:=fun E lp base fr H=>qai E lp base (.rng f g ps live a x) ⟨fr,H⟩
def qBc (id:Nat):KR:=fun _ _ _ fr H=>some (.exit id,⟨fr,H⟩)
def qC7:KR:=fun _ _ _ fr H=>some (.ret,⟨fr,H⟩)
def qBT:KR:=fun _ _ _ _ _=>none
def kev (c:PC):KR := @PC.rec (fun _=>KR) qKb qKW qDp qFv qqO qFp qLa qDa qBc qC7 qBT c
theorem qA0 (E:Env) (lp:(St→Res)→St→Res) (base:Nat) : ∀(c:PC) (fr:Fr) (H:Heap),kev c E lp base fr H=qai E lp base c ⟨fr,H⟩:=by
 intro c;induction c with
 |skip=>intro fr H;rfl
 |reg ops kill =>
  intro fr H;show @Option.rec St (fun _=>Res) none (fun s=>some (.norm,s)) (qmh ops kill E fr H)=_
  rw[qHD,qai];cases qcd E ops kill ⟨fr,H⟩<;>rfl
 |regD ops bf kill=>intro fr H;rfl
 |seq a b iha ihb =>
  intro fr H;show qtI (kev a E lp base fr H) (fun fr H=>kev b E lp base fr H)=_
  rw[iha,qai];cases qai E lp base a ⟨fr,H⟩ with
  |none=>rfl
  |some p =>
   obtain⟨e,s⟩:=p;cases e with
   |norm=>obtain⟨fr',H'⟩:=s;exact ihb fr' H'
   |exit j=>rfl
   |ret=>rfl
 |cond c x y ihx ihy =>
  intro fr H;show qqO c x y (kev x) (kev y) E lp base fr H=_
  unfold qqO;rw[qvn,qai,ihx,ihy];rfl
 |block id x ih =>
  intro fr H;show qxD id (kev x E lp base fr H)=_
  rw[ih,qai];cases qai E lp base x ⟨fr,H⟩ with
  |none=>rfl
  |some p =>
   obtain⟨e,s⟩:=p;cases e with
   |norm=>rfl
   |exit j =>
    show @Bool.rec (fun _=>Res) (some (.exit j,s)) (some (.norm,s)) (Nat.beq j id)=if j==id then _ else _
    have:(j==id)=Nat.beq j id:=by by_cases h:j=id; · { subst h;rw[Nat.beq_refl];simp }; · { rw[qlr h];simpa using h }
    rw[this];cases Nat.beq j id<;>rfl
   |ret=>rfl
 |loop live x ih =>
  intro fr H;show lp (qw9 live (kev x) E lp base) ⟨fr,H⟩=_
  rw[qai];congr 1
  funext s
  exact ih _ _
 |rng f g ps live a x iha ihx=>intro fr H;rfl
 |exit id=>intro fr H;rfl
 |ret=>intro fr H;rfl
 |bad=>intro fr H;rfl
def klp (n:Nat):(St→Res)→St→Res := @Nat.rec (fun _=>(St→Res)→St→Res) (fun _ _=>none) (fun _ ih f s => @Option.rec (Ex×St) (fun _=>Res) none (fun p => @Prod.rec Ex St (fun _=>Res) (fun e s' => @Ex.rec (fun _=>Res) (ih f s') (fun j=>some (.exit j,s')) (some (.ret,s')) e) p) (f s)) n
theorem qsg : ∀n,klp n=lpN n
 | 0=>rfl
 |n+1=>by
  funext f s
  have ih:=qsg n
  show @Option.rec (Ex×St) (fun _=>Res) none (fun p => @Prod.rec Ex St (fun _=>Res) (fun e s' => @Ex.rec (fun _=>Res) (klp n f s') (fun j=>some (.exit j,s')) (some (.ret,s')) e) p) (f s)=_
  rw[ih,lpN];cases f s with
  |none=>rfl
  |some p=>obtain⟨e,s'⟩:=p;cases e<;>rfl
def quB (E:Env) (rs:List RV) (s:St):Option (PV×Heap):=match runG E (qaF s.fr) s.H with
   |some H'=>match results s.fr H' rs with
    |some vs=>some (qa1 vs,H')
    |none=>none
   |none=>none
def qoj (E:Env) (rs:List RV) (r:Res):Option (PV×Heap) := @Option.rec (Ex×St) (fun _=>Option (PV×Heap)) none (fun p => @Prod.rec Ex St (fun _=>Option (PV×Heap)) (fun e s => @Ex.rec (fun _=>Option (PV×Heap)) (quB E rs s) (fun _=>none) (quB E rs s) e) p) r
def qnM:List PV→Nat→Fr:=fun l => @List.rec PV (fun _=>Nat→Fr) (fun _=>[]) (fun v _ ih j=>qjT (ih (Nat.succ j)) [(j,v)]) l
theorem qwX : ∀(l:List PV) (j:Nat),qnM l j=Fr.ofArgs j l
 | [],j=>rfl
 |v::r,j=>by show qjT (qnM r (j+1)) [(j,v)]=_;rw[qrP,qwX r,Fr.ofArgs]
def kfn (E:Env) (lp:(St→Res)→St→Res) (F:PF) (args:List PV) (H:Heap):Option (PV×Heap) := @PF.rec (fun _=>Option (PV×Heap)) (fun nargs rs body => @Bool.rec (fun _=>Option (PV×Heap)) none (qoj E rs (kev body E lp (qgS H) (qnM args 0) H)) (Nat.beq (qgS args) nargs)) F
theorem qwC (E:Env) (lp:(St→Res)→St→Res) (F:PF) (args:List PV) (H:Heap):kfn E lp F args H=qa5 E lp F args H:=by
 obtain⟨nargs,rs,body⟩:=F;show @Bool.rec (fun _=>Option (PV×Heap)) none (qoj E rs (kev body E lp (qgS H) (qnM args 0) H)) (Nat.beq (qgS args) nargs)=_
 rw[qkM,qkM,qA0,qwX];unfold qa5;by_cases h:args.length=nargs
 ·rw[if_pos h,h,Nat.beq_refl];show qoj E rs (qai E lp H.length body ⟨Fr.ofArgs 0 args,H⟩)=_
  cases qai E lp H.length body ⟨Fr.ofArgs 0 args,H⟩ with
  |none=>rfl
  |some p=>obtain⟨e,s⟩:=p;cases e<;>rfl
 ·rw[if_neg h,qlr h]
abbrev KY:=Nat→List PV→Heap→Option (PV×Heap)
structure KP where
 it:KY→KY
 val:Nat→List DV→Option (PV×Bool)
def qqy (E:Env) (lp:(St→Res)→St→Res) (args:List PV) (H:Heap) (F:PF):Option (PV×Heap) := @Option.rec (PV×Heap) (fun _=>Option (PV×Heap)) none (fun p => @Prod.rec PV Heap (fun _=>Option (PV×Heap)) (fun v H'=>some (gcV (qgS H) v H')) p) (kfn E lp F args H)
def kit (T:Tab) (n:Nat) (P:KP) (Y:KY) (f:Nat) (args:List PV) (H:Heap):Option (PV×Heap) := @Option.rec PF (fun _=>Option (PV×Heap)) (T.R f args H) (qqy ⟨T.G,P.it noY,P.val,Y,P.it,T.dok⟩ (klp n) args H) (T.F f)
def qoy (E:Env) (lp:(St→Res)→St→Res) (args:List DV) (F:PF):Option (PV×Bool) := @Option.rec (PV×Heap) (fun _=>Option (PV×Bool)) none (fun p => @Prod.rec PV Heap (fun _=>Option (PV×Bool)) (fun v H'=>purT H' v) p) (kfn E lp F (qcr .d args) [])
def qpY (T:Tab) (n:Nat) (P:KP) (f:Nat) (args:List DV):Option (PV×Bool) := @Option.rec PF (fun _=>Option (PV×Bool)) (T.X f args) (qoy ⟨T.G,P.it noY,P.val,noY,P.it,T.dok⟩ (klp n) args) (T.F f)
def kN (T:Tab) (n:Nat):KP := @Nat.rec (fun _=>KP) ⟨fun _ _ _ _=>none,fun _ _=>none⟩ (fun n P=>⟨kit T n P,qpY T n P⟩) n
theorem qug (T:Tab) : ∀n,(kN T n).it=itN T n∧(kN T n).val=qcB T n
 | 0=>⟨by funext Y f a H;rw[itN];rfl,by funext f a;rw[qcB];rfl⟩
 |n+1=>by
  obtain⟨h1,h2⟩:=qug T n;constructor
  ·funext Y f a H
   show kit T n (kN T n) Y f a H=_
   rw[qfE];unfold kit;cases T.F f with
   |none=>rfl
   |some F =>
    show qqy _ (klp n) a H F=_
    unfold qqy;rw[h1,h2,qsg,qwC,qkM];show @Option.rec (PV×Heap) (fun _=>Option (PV×Heap)) none _ (qa5 (envY T n Y) (lpN n) F a H)=_
    dsimp only
    cases qa5 (envY T n Y) (lpN n) F a H with
    |none=>rfl
    |some p=>rfl
  ·funext f a
   show qpY T n (kN T n) f a=_
   rw[qhd];unfold qpY;cases T.F f with
   |none=>rfl
   |some F =>
    show qoy _ (klp n) a F=_
    unfold qoy;rw[h1,h2,qsg,qwC,qaD];show @Option.rec (PV×Heap) (fun _=>Option (PV×Bool)) none _ (qa5 (qcq T n) (lpN n) F (a.map .d) [])=_
    dsimp only
    cases qa5 (qcq T n) (lpN n) F (a.map .d) [] with
    |none=>rfl
    |some p=>rfl
theorem qpt {T:Tab} {f:Nat} {args:List DV} {r:PV×Bool} (n:Nat) (h:(kN T n).val f args=some r):T.val f args=some r:=(qit T f args r).2 ⟨n,by rw[←(qug T n).2];exact h⟩
end
end Go.Sim

