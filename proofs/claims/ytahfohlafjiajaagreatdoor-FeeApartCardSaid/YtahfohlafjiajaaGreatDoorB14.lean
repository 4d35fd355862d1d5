/- Part 14 of the proof: CbFast. -/
import Derived.Test.YtahfohlafjiajaaGreatDoorB3
namespace Go.Sim
noncomputable section
def qke (fr:Fr) (t:Nat):PV := @List.rec (Nat×PV) (fun _=>PV) .u (fun p _ ih => @Prod.rec Nat PV (fun _=>PV) (fun j v => @Bool.rec (fun _=>PV) ih v (Nat.beq j t)) p) fr
theorem qkX {j t:Nat} (h : ¬j=t):Nat.beq j t=false:=by
 cases e:Nat.beq j t with
 |false=>rfl
 |true=>exact absurd (Nat.eq_of_beq_eq_true e) h
theorem qpa : ∀fr t,qke fr t=Fr.get fr t
 | [],t=>rfl
 | (j,v)::r,t=>by
  have ih:=qpa r t
  show @Bool.rec (fun _=>PV) (qke r t) v (Nat.beq j t)=_
  rw[ih,Fr.get];by_cases h:j=t
  ·subst h;rw[if_pos rfl,Nat.beq_refl]
  ·rw[if_neg h,qkX h]
def qn4 (fr:Fr) (t:Nat) (v:PV):Fr := @List.rec (Nat×PV) (fun _=>Fr) [(t,v)] (fun p r ih => @Prod.rec Nat PV (fun _=>Fr) (fun j x => @Bool.rec (fun _=>Fr) (@Bool.rec (fun _=>Fr) ((j,x)::ih) ((t,v)::(j,x)::r) (Nat.ble (Nat.succ j) t)) ((t,v)::r) (Nat.beq j t)) p) fr
theorem qtn : ∀fr t v,qn4 fr t v=Fr.set fr t v
 | [],t,v=>rfl
 | (j,x)::r,t,v=>by
  have ih:=qtn r t v
  show @Bool.rec (fun _=>Fr) (@Bool.rec (fun _=>Fr) ((j,x)::qn4 r t v) ((t,v)::(j,x)::r) (Nat.ble (Nat.succ j) t)) ((t,v)::r) (Nat.beq j t)=_
  rw[ih,Fr.set];by_cases h:j=t
  ·subst h;rw[if_pos rfl,Nat.beq_refl]
  ·rw[if_neg h,qkX h];show @Bool.rec (fun _=>Fr) _ _ (Nat.ble (Nat.succ j) t)=_
   by_cases h2:j<t
   ·rw[if_pos h2,Nat.ble_eq_true_of_le h2]
   ·rw[if_neg h2,Bool.eq_false_iff.2 (fun e=>h2 (Nat.le_of_ble_eq_true e))]
def qm2 (l:List Nat) (j:Nat):Bool := @List.rec Nat (fun _=>Bool) false (fun x _ ih => @Bool.rec (fun _=>Bool) ih true (Nat.beq x j)) l
theorem qtX : ∀l j,qm2 l j=l.contains j
 | [],j=>rfl
 |x::r,j=>by
  have ih:=qtX r j
  show @Bool.rec (fun _=>Bool) (qm2 r j) true (Nat.beq x j)=_
  rw[ih,List.contains_cons];by_cases h:x=j
  ·subst h;rw[Nat.beq_refl];simp
  ·rw[qkX h];have:(j==x)=false:=by simpa using fun e=>h e.symm
   rw[this];rfl
def qkR (l:List Nat) (fr:Fr):Fr := @List.rec (Nat×PV) (fun _=>Fr) [] (fun p _ ih => @Prod.rec Nat PV (fun _=>Fr) (fun j v => @Bool.rec (fun _=>Fr) ((j,v)::ih) (@Bool.rec (fun _=>Fr) ((j,v)::ih) ih (Nat.ble (Nat.succ j) 100000)) (qm2 l j)) p) fr
theorem qrr (l:List Nat) : ∀fr,qkR l fr=Fr.drop l fr
 | []=>rfl
 | (j,v)::r=>by
  have ih:=qrr l r
  show @Bool.rec (fun _=>Fr) ((j,v)::qkR l r) (@Bool.rec (fun _=>Fr) ((j,v)::qkR l r) (qkR l r) (Nat.blt j gh)) (qm2 l j)=_
  rw[ih,Fr.drop,qtX];cases l.contains j<;>cases Nat.blt j gh<;>rfl
def qcK {α β:Type} (f:α→β) (l:List α):List β := @List.rec α (fun _=>List β) [] (fun x _ ih=>f x::ih) l
theorem qaO {α β:Type} (f:α→β) : ∀l,qcK f l=l.map f
 | []=>rfl
 |x::r=>by show f x::qcK f r=_;rw[qaO f r];rfl
def qkH {α:Type} (l m:List α):List α := @List.rec α (fun _=>List α) m (fun x _ ih=>x::ih) l
theorem qqD {α:Type} : ∀(l m:List α),qkH l m=l++m
 | [],m=>rfl
 |x::r,m=>by show x::qkH r m=_;rw[qqD r m];rfl
def qhC {α:Type} (l:List α):Nat := @List.rec α (fun _=>Nat) 0 (fun _ _ ih=>Nat.succ ih) l
theorem qk6 {α:Type} : ∀(l:List α),qhC l=l.length
 | []=>rfl
 |x::r=>by show Nat.succ (qhC r)=_;rw[qk6 r];rfl
def qps {α:Type} (l:List α):Nat→Option α := @List.rec α (fun _=>Nat→Option α) (fun _=>none) (fun x _ ih n => @Nat.rec (fun _=>Option α) (some x) (fun m _=>ih m) n) l
theorem qrU {α:Type} : ∀(l:List α) (n:Nat),qps l n=l[n]?
 | [],n=>rfl
 |x::r,0=>rfl
 |x::r,n+1=>by show qps r n=_;rw[qrU r n];rfl
def qo3 {α:Type} (x:α) (n:Nat) (l:List α):List α := @Nat.rec (fun _=>List α) l (fun _ ih=>x::ih) n
theorem qsd {α:Type} (x:α) (l:List α) : ∀n,qo3 x n l=List.replicate n x++l
 | 0=>rfl
 |n+1=>by show x::qo3 x n l=_;rw[qsd x l n];rfl
def qgt (H:Heap) (o:Nat):Option Obj := @Option.rec (Option Obj) (fun _=>Option Obj) none (fun x=>x) (qps H o)
theorem qwG (H:Heap) (o:Nat):qgt H o=Heap.obj H o:=by
 unfold qgt Heap.obj;rw[qrU];cases H[o]? <;> rfl
def krd (E:Env) (fr:Fr) (x:Rand):PV := @Rand.rec (fun _=>PV) (fun t=>qke fr t) (fun v=>.d v) (fun n=>match E.G n with|some (v,k)=>.q v k 0|none=>.u) (fun n=>.f n []) x
theorem qs9 (E:Env) (fr:Fr):krd E fr=rd E fr:=by
 funext x
 cases x with
 |t n=>exact qpa fr n
 |c v=>rfl
 |f n=>rfl
 |g n=>simp only[krd,rd];cases E.G n<;>rfl
def qa0:Heap→K→PV→Option PV:=qcp
def qaW:Heap→K→PV→PV→Option Heap:=qch
def qa1:Heap→K→PV→PV→Option PV:=iaddr
def qaV:BinOp→PV→PV→Option DV:=qa7
def qaQ:Nat→PV→Option PV:=qgp
def qaY:Heap→Bool→PV→Option Nat:=qcY
def qqx (x:Rand) (E:Env) (fr:Fr) (H:Heap) (_id:Nat):Option (PV×Heap):=some (krd E fr x,H)
def qqt (c:Rand) (a:Rand) (b:Rand) (E:Env) (fr:Fr) (H:Heap) (_id:Nat):Option (PV×Heap):=match krd E fr c with
  | .d (.b true)=>some (krd E fr a,H)
  | .d (.b false)=>some (krd E fr b,H)
  | _=>none
def qqe (k:K) (z:DV) (_E:Env) (_fr:Fr) (H:Heap) (id:Nat):Option (PV×Heap):=some (.p id 0 0,H.put id (some (.box k (.d z))))
def qpd (k:K) (x:Rand) (E:Env) (fr:Fr) (H:Heap) (id:Nat):Option (PV×Heap):=if fits k (krd E fr x) then some (.p id 0 0,H.put id (some (.box k (krd E fr x)))) else none
def qno (z:List DV) (parts:List (Nat×K×Rand)) (E:Env) (fr:Fr) (H:Heap) (_id:Nat):Option (PV×Heap):=match qcQ (z.map .d) (parts.map fun x=>(x.1,x.2.1,krd E fr x.2.2)) with
  |some cs=>some (mkA cs,H)
  |none=>none
def qoC (k:K) (z:DV) (len:Nat) (parts:List (Nat×Rand)) (E:Env) (fr:Fr) (H:Heap) (id:Nat):Option (PV×Heap):=match qb7 H k (List.replicate len z) (parts.map fun x=>(x.1,krd E fr x.2)) with
  |some (es,os)=>some (.r id k 0 len true,(frz H os).put id (some (.sl k 0 es)))
  |none=>none
def qob (k:K) (x:Rand) (E:Env) (fr:Fr) (H:Heap) (_id:Nat):Option (PV×Heap):=opt (qa0 H k (krd E fr x)) H
def qnY (k:K) (x:Rand) (y:Rand) (E:Env) (fr:Fr) (H:Heap) (_id:Nat):Option (PV×Heap):=match qaW H k (krd E fr x) (krd E fr y) with|some H'=>some (.u,H')|none=>none
def qqC (op:BinOp) (x:Rand) (y:Rand) (E:Env) (fr:Fr) (H:Heap) (_id:Nat):Option (PV×Heap):=qf4 (qaV op (krd E fr x) (krd E fr y)) H
def qoW (neg:Bool) (n:List Nat) (x:Rand) (y:Rand) (E:Env) (fr:Fr) (H:Heap) (_id:Nat):Option (PV×Heap):=match eqA n (krd E fr x) (krd E fr y) with
  |some e=>some (.d (.b (if neg then !e else e)),H)
  |none=>none
def qnI (neg:Bool) (x:Rand) (y:Rand) (E:Env) (fr:Fr) (H:Heap) (_id:Nat):Option (PV×Heap):=match krd E fr x,krd E fr y with
  | .d (.b a),.d (.b b)=>some (.d (.b (if neg then !(a==b) else a==b)),H)
  | _,_=>none
def qoq (neg:Bool) (kd:Nat) (x:Rand) (E:Env) (fr:Fr) (H:Heap) (_id:Nat):Option (PV×Heap):=match qfE kd (krd E fr x) with|some b=>some (.d (.b (if neg then !b else b)),H)|none=>none
def qoe (op:UnOp) (x:Rand) (E:Env) (fr:Fr) (H:Heap) (_id:Nat):Option (PV×Heap):=qf4 (unA op (krd E fr x)) H
def qpf (k:IntKind) (x:Rand) (E:Env) (fr:Fr) (H:Heap) (_id:Nat):Option (PV×Heap):=match krd E fr x with | .d (.i _ n)=>some (.d (.i k (k.wrap n)),H)|_=>none
def qqA (x:Rand) (lo:Option Rand) (hi:Option Rand) (E:Env) (fr:Fr) (H:Heap) (_id:Nat):Option (PV×Heap):=match krd E fr x with
  | .d (.s s)=>match bnd s.length s.length (hi.map (krd E fr)) with
   |some h=>match bnd 0 h (lo.map (krd E fr)) with
    |some l=>some (.d (.s ((s.take h).drop l)),H)
    |none=>none
   |none=>none
  | _=>none
def qpJ (k:K) (x:Rand) (lo:Option Rand) (hi:Option Rand) (mx:Option Rand) (E:Env) (fr:Fr) (H:Heap) (_id:Nat):Option (PV×Heap):=opt (slA H k (krd E fr x) (lo.map (krd E fr)) (hi.map (krd E fr)) (mx.map (krd E fr))) H
def qo5 (off:Nat) (x:Rand) (E:Env) (fr:Fr) (H:Heap) (_id:Nat):Option (PV×Heap):=opt (qaQ off (krd E fr x)) H
def qoh (off:Nat) (k:K) (x:Rand) (E:Env) (fr:Fr) (H:Heap) (_id:Nat):Option (PV×Heap):=opt (qhO off k (krd E fr x)) H
def qnz (k:K) (x:Rand) (i:Rand) (E:Env) (fr:Fr) (H:Heap) (_id:Nat):Option (PV×Heap):=opt (qa1 H k (krd E fr x) (krd E fr i)) H
def qns (len:Nat) (k:K) (x:Rand) (i:Rand) (E:Env) (fr:Fr) (H:Heap) (_id:Nat):Option (PV×Heap):=match asI (krd E fr i) with
  |some n=>match inR n len with|some j=>opt (qaQ (j*k.size) (krd E fr x)) H|none=>none
  |none=>none
def qpn (x:Rand) (i:Rand) (E:Env) (fr:Fr) (H:Heap) (_id:Nat):Option (PV×Heap):=match krd E fr x,asI (krd E fr i) with
  | .d (.s s),some n=>if 0≤n then match s[n.toNat]? with
   |some b=>some (.d (.i .u8 b.toNat),H)
   |none=>none
   else none
  | _,_=>none
def qp4 (len:Nat) (k:K) (x:Rand) (i:Rand) (E:Env) (fr:Fr) (H:Heap) (_id:Nat):Option (PV×Heap):=match asI (krd E fr i) with
  |some n=>match inR n len with
   |some j=>opt (qhO (j*k.size) k (krd E fr x)) H
   |none=>none
  |none=>none
def qox (str:Bool) (x:Rand) (E:Env) (fr:Fr) (H:Heap) (_id:Nat):Option (PV×Heap):=match qaY H str (krd E fr x) with|some n=>some (.d (.i .i64 n),H)|none=>none
def qqa (k:K) (bytes:Nat) (x:Rand) (y:Rand) (E:Env) (fr:Fr) (H:Heap) (id:Nat):Option (PV×Heap):=qcI H id k bytes (krd E fr x) (krd E fr y)
def qnB (f:Nat) (args:List Rand) (E:Env) (fr:Fr) (H:Heap) (_id:Nat):Option (PV×Heap):=match qbb H (qcK (krd E fr) args) with
  |some (ds,os)=>match E.val f ds with
   |some (r,_)=>some (r,if os.isEmpty||r.scal then H else frz H os)
   |none=>none
  |none=>none
def qoi (f:Nat) (args:List Rand) (E:Env) (fr:Fr) (H:Heap) (id:Nat):Option (PV×Heap):=match qbb H (qcK (krd E fr) args) with
  |some (ds,os)=>match E.val f ds with
   |some (.d (.l k es _),true)=>some (.r id k 0 es.length false,(if os.isEmpty then H else frz H os).put id (some (.sl k 0 es)))
   | _=>none
  |none=>none
def qod (f:Nat) (args:List Rand) (E:Env) (fr:Fr) (H:Heap) (_id:Nat):Option (PV×Heap):=E.ref f (qcK (krd E fr) args) H
def qCk (mode f:Nat) (args:List Rand):Env→Fr→Heap→Nat→Option (PV×Heap) := @Nat.rec (fun _=>Env→Fr→Heap→Nat→Option (PV×Heap)) (qnB f args) (fun m _ => @Nat.rec (fun _=>Env→Fr→Heap→Nat→Option (PV×Heap)) (qoi f args) (fun _ _=>qod f args) m) mode
def qnq (x:Rand) (args:List Rand) (E:Env) (fr:Fr) (H:Heap) (_id:Nat):Option (PV×Heap):=match krd E fr x with
  | .f n caps=>match (if caps.isEmpty then qal (qcK (krd E fr) args) else none) with
   |some ds=>match E.val n ds with
    |some (r,_)=>some (r,H)
    |none=>none
   |none=>E.ref n (qcK (krd E fr) args++caps) H
  | .m n firsts=>match qal (firsts++qcK (krd E fr) args) with
   |some ds=>match E.val n ds with
    |some (r,_)=>some (r,H)
    |none=>none
   |none=>E.ref n (firsts++qcK (krd E fr) args) H
  | .h o=>E.yld o (qcK (krd E fr) args) H
  | _=>none
def qp1 (x:Rand) (i:Nat) (E:Env) (fr:Fr) (H:Heap) (_id:Nat):Option (PV×Heap):=match krd E fr x with
  | .t vs=>opt vs[i]? H
  | _=>none
def qpb (f:Nat) (caps:List Rand) (E:Env) (fr:Fr) (H:Heap) (_id:Nat):Option (PV×Heap):=some (.f f (qcK (krd E fr) caps),H)
def qnw (f:Nat) (caps:List Rand) (E:Env) (fr:Fr) (H:Heap) (_id:Nat):Option (PV×Heap):=some (.m f (qcK (krd E fr) caps),H)
def qoj (p:Nat) (args:List Rand) (E:Env) (fr:Fr) (H:Heap) (_id:Nat):Option (PV×Heap):=opt (qfT p (qcK (krd E fr) args)) H
def qpN (x:Rand) (E:Env) (fr:Fr) (H:Heap) (_id:Nat):Option (PV×Heap):=match krd E fr x with
  | .p o i c=>some (.p o i c,H)
  | .q v k c=>some (.q v k c,H)
  | .f n cs=>some (.f n cs,H)
  | _=>none
def qnV (k:K) (bytes:Nat) (z:DV) (len:Rand) (cap:Rand) (E:Env) (fr:Fr) (H:Heap) (id:Nat):Option (PV×Heap):=match asI (krd E fr len),asI (krd E fr cap) with
  |some n,some c=>if 0≤n∧n≤c∧c*bytes≤2^47 then some (.r id k 0 n.toNat false,H.put id (some (.sl k 0 (List.replicate n.toNat z)))) else none
  | _,_=>none
def qnF (mx:Bool) (args:List Rand) (E:Env) (fr:Fr) (H:Heap) (_id:Nat):Option (PV×Heap):=match qcK (krd E fr) args with
  |v::r=>opt (mmA mx v r) H
  | []=>none
def qnW (k:K) (x:Rand) (y:Rand) (E:Env) (fr:Fr) (H:Heap) (_id:Nat):Option (PV×Heap):=match krd E fr x with
  | .r o k' off len _=>match qgt H o,qbM H k (krd E fr y) with
   |some (.sl k'' ro es),some ys =>
    if K.eq k k'&&K.eq k k''&&decide (off+len≤es.length)&&decide (ro≤off) then
     let n:=min ys.length len
     some (.d (.i .i64 n),H.put o (some (.sl k ro (putAt es off (ys.take n)))))
    else none
   | _,_=>none
  | _=>none
def qo0 (k:K) (z:DV) (x:Rand) (E:Env) (fr:Fr) (H:Heap) (_id:Nat):Option (PV×Heap):=match krd E fr x with
  | .r o k' off len _=>match qgt H o with
   |some (.sl k'' ro es) =>
    if K.eq k k'&&K.eq k k''&&decide (off+len≤es.length)&&decide (ro≤off) then some (.t [],H.put o (some (.sl k ro (putAt es off (List.replicate len z))))) else none
   | _=>none
  | .d (.l _ [] _)=>some (.t [],H)
  | _=>none
def qp8 (t:Nat) (x:Rand) (E:Env) (fr:Fr) (H:Heap) (_id:Nat):Option (PV×Heap):=match pur H (krd E fr x) with
  |some (v,os)=>some (.d (.ifc t v),frz H os)
  |none=>some (.w t (krd E fr x),H)
def qpM (t:Nat) (z:DV) (ok:Bool) (x:Rand) (E:Env) (fr:Fr) (H:Heap) (_id:Nat):Option (PV×Heap):=match krd E fr x with
  | .d (.ifc u v)=>if u=t then some (if ok then .t [.d v,.d (.b true)] else .d v,H) else if ok then some (.t [.d z,.d (.b false)],H) else none
  | .w u v=>if u=t then some (if ok then .t [v,.d (.b true)] else v,H) else if ok then some (.t [.d z,.d (.b false)],H) else none
  | .d .ni=>if ok then some (.t [.d z,.d (.b false)],H) else none
  | _=>none
def qpR (tab:List (Nat×Nat×Nat)) (x:Rand) (args:List Rand) (E:Env) (fr:Fr) (H:Heap) (_id:Nat):Option (PV×Heap):=match krd E fr x with
  | .d (.ifc u v)=>match qij u tab with
   |some (0,f)=>match qbb H (qcK (krd E fr) args) with
    |some (ds,os)=>match E.val f (v::ds) with
     |some (r,_)=>some (r,if os.isEmpty||r.scal then H else frz H os)
     |none=>none
    |none=>none
   |some (_,f)=>E.ref f (.d v::qcK (krd E fr) args) H
   |none=>none
  | _=>none
def qo1  (_E:Env) (_fr:Fr) (H:Heap) (id:Nat):Option (PV×Heap):=some (.h id,H.put id (some (.mp [])))
def qqu (ky:Ky) (z:DV) (ok:Bool) (x:Rand) (i:Rand) (E:Env) (fr:Fr) (H:Heap) (_id:Nat):Option (PV×Heap):=match krd E fr i,krd E fr x with
  | .d k,.h o=>if qfw ky k then match qgt H o with
   |some (.mp es)=>match qcu k es with
    |some r=>some (if ok then .t [.d (r.getD z),.d (.b r.isSome)] else .d (r.getD z),H)
    |none=>none
   | _=>none
   else none
  | _,_=>none
def qnZ (ky:Ky) (x:Rand) (i:Rand) (v:Rand) (E:Env) (fr:Fr) (H:Heap) (_id:Nat):Option (PV×Heap):=match krd E fr i,krd E fr x,pur H (krd E fr v) with
  | .d k,.h o,some (xv,os)=>if qfw ky k then match qgt H o with
   |some (.mp es)=>match qeb k xv es with
    |some es'=>some (.u,(frz H os).put o (some (.mp es')))
    |none=>none
   | _=>none
   else none
  | _,_,_=>none
def qpA (ky:Ky) (x:Rand) (i:Rand) (E:Env) (fr:Fr) (H:Heap) (_id:Nat):Option (PV×Heap):=match krd E fr i,krd E fr x with
  | .d k,.h o=>if qfw ky k then match qgt H o with
   |some (.mp es)=>match qow k es with
    |some es'=>some (.u,H.put o (some (.mp es')))
    |none=>none
   | _=>none
   else none
  | _,_=>none
def qpT (x:Rand) (E:Env) (fr:Fr) (H:Heap) (_id:Nat):Option (PV×Heap):=match krd E fr x with
  | .h o=>match qgt H o with
   |some (.mp es)=>some (.d (.i .i64 es.length),H)
   | _=>none
  | _=>none
def qp9 (x:Rand) (E:Env) (fr:Fr) (H:Heap) (id:Nat):Option (PV×Heap):=match krd E fr x with
  | .d (.s l)=>some (.h id,H.put id (some (.si l 0)))
  | _=>none
def qpc (x:Rand) (E:Env) (fr:Fr) (H:Heap) (_id:Nat):Option (PV×Heap):=match krd E fr x with
  | .h o=>match qgt H o with
   |some (.si l pos) =>
    if pos<l.length then
     let c:=Utf8.decode ⟨l.toArray⟩ pos
     some (.t [.d (.b true),.d (.i .i64 pos),.d (.i .i32 c.1)],H.put o (some (.si l (pos+c.2))))
    else some (.t [.d (.b false)],H)
   | _=>none
  | _=>none
def qoT (x:Rand) (E:Env) (fr:Fr) (H:Heap) (_id:Nat):Option (PV×Heap):=match krd E fr x with
  | .d (.s _)=>none
  |y=>match qbM H none y with
   |some es=>match qiF es with|some l=>some (.d (.s l),H)|none=>none
   |none=>none
def qnQ (x:Rand) (E:Env) (fr:Fr) (H:Heap) (_id:Nat):Option (PV×Heap):=match krd E fr x with
  | .d (.s l)=>some (.d (.l none (bytesOf l) false),H)
  | _=>none
def qoY (x:Rand) (y:Rand) (E:Env) (fr:Fr) (H:Heap) (_id:Nat):Option (PV×Heap):=match krd E fr x,krd E fr y with
  | .f n caps,.u=>some (.g (.f n caps),H)
  | _,_=>none
def qoQ  (_E:Env) (_fr:Fr) (_H:Heap) (_id:Nat):Option (PV×Heap):=none
def kop (op:IOp):Env→Fr→Heap→Nat→Option (PV×Heap) := @IOp.rec (fun _=>Env→Fr→Heap→Nat→Option (PV×Heap)) qqx qqt qqe qpd qno qoC qob qnY qqC qoW qnI qoq qoe qpf qqA qpJ qo5 qoh qnz qns qpn qp4 qox qqa qCk qnq qp1 qpb qnw qoj qpN qnV qnF qnW qo0 qp8 qpM qpR qo1 qqu qnZ qpA qpT qp9 qpc qoT qnQ qoY qoQ op
theorem qAp (op:IOp) (E:Env) (fr:Fr) (H:Heap) (id:Nat):kop op E fr H id=qaa E (rd E fr) H id op:=by
 rw[←qs9];have ko:qgt=Heap.obj:=by funext H o;exact qwG H o
 cases op with
 |mov x=>show qqx x E fr H id=_;simp only[qqx,qaa]<;>rfl
 |pick c a b=>show qqt c a b E fr H id=_;simp only[qqt,qaa]<;>rfl
 |alloc k z=>show qqe k z E fr H id=_;simp only[qqe,qaa]<;>rfl
 |box k x=>show qpd k x E fr H id=_;simp only[qpd,qaa]<;>rfl
 |agg z parts=>show qno z parts E fr H id=_;simp only[qno,qaa]<;>rfl
 |bsl k z len parts=>show qoC k z len parts E fr H id=_;simp only[qoC,qaa]<;>rfl
 |load k x=>show qob k x E fr H id=_;simp only[qob,qaa,qa0]<;>rfl
 |store k x y=>show qnY k x y E fr H id=_;simp only[qnY,qaa,qaW]<;>rfl
 |bin op x y=>show qqC op x y E fr H id=_;simp only[qqC,qaa,qaV]<;>rfl
 |eqv neg n x y=>show qoW neg n x y E fr H id=_;simp only[qoW,qaa]<;>rfl
 |eqb neg x y=>show qnI neg x y E fr H id=_;simp only[qnI,qaa]<;>rfl
 |isnil neg kd x=>show qoq neg kd x E fr H id=_;simp only[qoq,qaa]<;>rfl
 |un op x=>show qoe op x E fr H id=_;simp only[qoe,qaa]<;>rfl
 |conv k x=>show qpf k x E fr H id=_;simp only[qpf,qaa]<;>rfl
 |slS x lo hi=>show qqA x lo hi E fr H id=_;simp only[qqA,qaa]<;>rfl
 |sl k x lo hi mx=>show qpJ k x lo hi mx E fr H id=_;simp only[qpJ,qaa]<;>rfl
 |faddr off x=>show qo5 off x E fr H id=_;simp only[qo5,qaa,qaQ]<;>rfl
 |field off k x=>show qoh off k x E fr H id=_;simp only[qoh,qaa]<;>rfl
 |iaddr k x i=>show qnz k x i E fr H id=_;simp only[qnz,qaa,qa1]<;>rfl
 |iaddrA len k x i=>show qns len k x i E fr H id=_;simp only[qns,qaa,qaQ]<;>rfl
 |idxS x i=>show qpn x i E fr H id=_;simp only[qpn,qaa]<;>rfl
 |idxA len k x i=>show qp4 len k x i E fr H id=_;simp only[qp4,qaa]<;>rfl
 |len str x=>show qox str x E fr H id=_;simp only[qox,qaa,qaY]<;>rfl
 |app k bytes x y=>show qqa k bytes x y E fr H id=_;simp only[qqa,qaa]<;>rfl
 |call m f args=>match m with
  | 0=>show qnB f args E fr H id=_;simp only[qnB,qaa,qaO]<;>rfl
  | 1=>show qoi f args E fr H id=_;simp only[qoi,qaa,qaO]<;>rfl
  |m+2=>show qod f args E fr H id=_;simp only[qod,qaa,qaO]<;>rfl
 |callv x args=>show qnq x args E fr H id=_;simp only[qnq,qaa,qaO]<;>rfl
 |ext x i=>show qp1 x i E fr H id=_;simp only[qp1,qaa]<;>rfl
 |mkf f caps=>show qpb f caps E fr H id=_;simp only[qpb,qaa,qaO]<;>rfl
 |mkm f caps=>show qnw f caps E fr H id=_;simp only[qnw,qaa,qaO]<;>rfl
 |prim p args=>show qoj p args E fr H id=_;simp only[qoj,qaa,qaO]<;>rfl
 |nilck x=>show qpN x E fr H id=_;simp only[qpN,qaa]<;>rfl
 |mksl k bytes z len cap=>show qnV k bytes z len cap E fr H id=_;simp only[qnV,qaa]<;>rfl
 |minmax mx args=>show qnF mx args E fr H id=_;simp only[qnF,qaa,qaO]<;>rfl
 |copy k x y=>show qnW k x y E fr H id=_;simp only[qnW,qaa,ko]<;>rfl
 |clr k z x=>show qo0 k z x E fr H id=_;simp only[qo0,qaa,ko]<;>rfl
 |mkif t x=>show qp8 t x E fr H id=_;simp only[qp8,qaa]<;>rfl
 |tas t z ok x=>show qpM t z ok x E fr H id=_;simp only[qpM,qaa]<;>rfl
 |invk tab x args=>show qpR tab x args E fr H id=_;simp only[qpR,qaa,qaO]<;>rfl
 |mkmap  => show qo1  E fr H id=_;simp only[qo1,qaa]<;>rfl
 |mget ky z ok x i=>show qqu ky z ok x i E fr H id=_;simp only[qqu,qaa,ko]<;>rfl
 |mset ky x i v=>show qnZ ky x i v E fr H id=_;simp only[qnZ,qaa,ko]<;>rfl
 |mdel ky x i=>show qpA ky x i E fr H id=_;simp only[qpA,qaa,ko]<;>rfl
 |mlen x=>show qpT x E fr H id=_;simp only[qpT,qaa,ko]<;>rfl
 |rngS x=>show qp9 x E fr H id=_;simp only[qp9,qaa]<;>rfl
 |nxt x=>show qpc x E fr H id=_;simp only[qpc,qaa,ko]<;>rfl
 |sb x=>show qoT x E fr H id=_;simp only[qoT,qaa]<;>rfl
 |bs x=>show qnQ x E fr H id=_;simp only[qnQ,qaa]<;>rfl
 |dfr x y=>show qoY x y E fr H id=_;simp only[qoY,qaa]<;>rfl
 |bad  => show qoQ  E fr H id=_;simp only[qoQ,qaa]<;>rfl
def qmD (d:Option Nat) (fr:Fr) (v:PV):Fr := @Option.rec Nat (fun _=>Fr) fr (fun t=>qn4 fr t v) d
abbrev KCf:=Env→Nat→Fr→Heap→Option St
def qlp (op:IOp) (id:Nat):Nat := @Bool.rec (fun _=>Nat) id (Nat.succ id) op.adds
def kgo (dst:Option Nat) (op:IOp) (ih:KCf) (E:Env) (id:Nat) (fr:Fr) (H:Heap):Option St := @Option.rec (PV×Heap) (fun _=>Option St) none (fun p => @Prod.rec PV Heap (fun _=>Option St) (fun v H'=>ih E (qlp op id) (qmD dst fr v) H') p) (kop op E fr H id)
def kno (dst:Option Nat) (op:IOp) (ih:KCf) (E:Env) (id:Nat) (fr:Fr) (H:Heap):Option St:=ih E (qlp op id) (qmD dst fr (.t [])) H
def quX (v:PV) (want:Bool) (go no:Option St):Option St:=match v with
 | .d (.b b)=>if b==want then go else no
 | .t []=>no
 | _=>none
def qnU (dst:Option Nat) (op:IOp) (g:Option (Nat×Bool)) (ih:KCf) (E:Env) (id:Nat) (fr:Fr) (H:Heap):Option St :=
 @Option.rec (Nat×Bool) (fun _=>Option St) (kgo dst op ih E id fr H) (fun p => @Prod.rec Nat Bool (fun _=>Option St) (fun t want=>quX (qke fr t) want (kgo dst op ih E id fr H) (kno dst op ih E id fr H)) p) g
def qjd (l:List IOper):KCf := @List.rec IOper (fun _=>KCf) (fun _ _ fr H=>some ⟨fr,H⟩) (fun o _ ih => @IOper.rec (fun _=>KCf) (fun dst op g=>qnU dst op g ih) o) l
def qm0 (d:Option Nat) (fr:Fr) (v:PV):Fr:=match d with|some t=>fr.set t v|none=>fr
theorem qrR (E:Env) : ∀(l:List IOper) (id:Nat) (fr:Fr) (H:Heap),qjd l E id fr H=qaM E l id ⟨fr,H⟩
 | [],id,fr,H=>rfl
 | ⟨dst,op,g⟩::r,id,fr,H=>by
  have ih:=qrR E r
  have hadd:qlp op id=if op.adds then id+1 else id:=by unfold qlp;cases op.adds<;>rfl
  have hd : ∀v,qmD dst fr v=qm0 dst fr v:=by intro v;cases dst<;>simp[qmD,qtn,qm0]
  have hgo:kgo dst op (qjd r) E id fr H=match qaa E (rd E fr) H id op with|some (v,H')=>qaM E r (if op.adds then id+1 else id) ⟨qm0 dst fr v,H'⟩|none=>none:=by
   unfold kgo;rw[qAp];cases h:qaa E (rd E fr) H id op with
   |none=>rfl
   |some p=>obtain⟨v,H'⟩:=p;show qjd r E _ _ _=_;rw[ih,hadd,hd]
  have hno:kno dst op (qjd r) E id fr H=qaM E r (if op.adds then id+1 else id) ⟨qm0 dst fr (.t []),H⟩:=by
   unfold kno;rw[ih,hadd,hd]
  show qnU dst op g (qjd r) E id fr H=_
  unfold qnU;rw[qaM,hgo,hno];cases g with
  |none=>cases dst<;>rfl
  |some p =>
   obtain⟨t,want⟩:=p;show quX (qke fr t) want _ _=_
   rw[qpa];cases dst<;>rfl
def qlN (ops:List IOper) (kill:List Nat) (E:Env) (fr:Fr) (H:Heap):Option St := @Option.rec St (fun _=>Option St) none (fun s => @St.rec (fun _=>Option St) (fun fr' H'=>some ⟨qkR kill fr',H'⟩) s) (qjd ops E (qhC H) fr (qkH H (qo3 none (qan ops) [])))
theorem qv5 (ops:List IOper) (kill:List Nat) (E:Env) (fr:Fr) (H:Heap):qlN ops kill E fr H=qcz E ops kill ⟨fr,H⟩:=by
 unfold qlN qcz;rw[qrR,qk6,qqD,qsd,List.append_nil];cases qaM E ops H.length ⟨fr,H++List.replicate (qan ops) none⟩ with
 |none=>rfl
 |some s=>obtain⟨fr',H'⟩:=s;show some _=_;rw[qrr]
abbrev KR:=Env→((St→Res)→St→Res)→Nat→Fr→Heap→Res
def qu2 (r:Res) (f:Fr→Heap→Res):Res := @Option.rec (Ex×St) (fun _=>Res) none (fun p => @Prod.rec Ex St (fun _=>Res) (fun e s => @Ex.rec (fun _=>Res) (@St.rec (fun _=>Res) f s) (fun j=>some (.exit j,s)) (some (.ret,s)) e) p) r
def qwU:KR:=fun _ _ _ fr H=>some (.norm,⟨fr,H⟩)
def qyp (ops:List IOper) (kill:List Nat):KR:=fun E _ _ fr H => @Option.rec St (fun _=>Res) none (fun s=>some (.norm,s)) (qlN ops kill E fr H)
def qyj (ops:List IOper) (bf kill:List Nat):KR:=fun E _ _ fr H=>match qfW E ops bf kill ⟨fr,H⟩ with|some s'=>some (.norm,s')|none=>none
def qA9 (_ _:PC) (a b:KR):KR:=fun E lp base fr H=>qu2 (a E lp base fr H) fun fr H=>b E lp base fr H
def qoz (c:Rand) (_ _:PC) (x y:KR):KR:=fun E lp base fr H=>match krd E fr c with
 | .d (.b true)=>x E lp base fr H
 | .d (.b false)=>y E lp base fr H
 | _=>none
def qqS (id:Nat) (r:Res):Res := @Option.rec (Ex×St) (fun _=>Res) none (fun p => @Prod.rec Ex St (fun _=>Res) (fun e s => @Ex.rec (fun _=>Res) (some (.norm,s)) (fun j => @Bool.rec (fun _=>Res) (some (.exit j,s)) (some (.norm,s)) (Nat.beq j id)) (some (.ret,s)) e) p) r
def qwy (id:Nat) (_:PC) (x:KR):KR:=fun E lp base fr H=>qqS id (x E lp base fr H)
def qth (live:List Nat) (x:KR) (E:Env) (lp:(St→Res)→St→Res) (base:Nat) (s:St):Res := @St.rec (fun _=>Res) (fun fr H=>x E lp base fr H) (gc live base s)
def qxv (live:List Nat) (_:PC) (x:KR):KR:=fun E lp base fr H=>lp (qth live x E lp base) ⟨fr,H⟩
def qBC (f:Rand) (g:Nat) (ps live:List Nat) (a x:PC) (_ _:KR):KR:=fun E lp base fr H=>qaj E lp base (.rng f g ps live a x) ⟨fr,H⟩
def qxd (id:Nat):KR:=fun _ _ _ fr H=>some (.exit id,⟨fr,H⟩)
def qCj:KR:=fun _ _ _ fr H=>some (.ret,⟨fr,H⟩)
def qy0:KR:=fun _ _ _ _ _=>none
def kev (c:PC):KR := @PC.rec (fun _=>KR) qwU qyp qyj qA9 qoz qwy qxv qBC qxd qCj qy0 c
theorem qC3 (E:Env) (lp:(St→Res)→St→Res) (base:Nat) : ∀(c:PC) (fr:Fr) (H:Heap),kev c E lp base fr H=qaj E lp base c ⟨fr,H⟩:=by
 intro c;induction c with
 |skip=>intro fr H;rfl
 |reg ops kill =>
  intro fr H;show @Option.rec St (fun _=>Res) none (fun s=>some (.norm,s)) (qlN ops kill E fr H)=_
  rw[qv5,qaj];cases qcz E ops kill ⟨fr,H⟩<;>rfl
 |regD ops bf kill=>intro fr H;rfl
 |seq a b iha ihb =>
  intro fr H;show qu2 (kev a E lp base fr H) (fun fr H=>kev b E lp base fr H)=_
  rw[iha,qaj];cases qaj E lp base a ⟨fr,H⟩ with
  |none=>rfl
  |some p =>
   obtain⟨e,s⟩:=p;cases e with
   |norm=>obtain⟨fr',H'⟩:=s;exact ihb fr' H'
   |exit j=>rfl
   |ret=>rfl
 |cond c x y ihx ihy =>
  intro fr H;show qoz c x y (kev x) (kev y) E lp base fr H=_
  unfold qoz;rw[qs9,qaj,ihx,ihy];rfl
 |block id x ih =>
  intro fr H;show qqS id (kev x E lp base fr H)=_
  rw[ih,qaj];cases qaj E lp base x ⟨fr,H⟩ with
  |none=>rfl
  |some p =>
   obtain⟨e,s⟩:=p;cases e with
   |norm=>rfl
   |exit j =>
    show @Bool.rec (fun _=>Res) (some (.exit j,s)) (some (.norm,s)) (Nat.beq j id)=if j==id then _ else _
    have:(j==id)=Nat.beq j id:=by by_cases h:j=id; · { subst h;rw[Nat.beq_refl];simp }; · { rw[qkX h];simpa using h }
    rw[this];cases Nat.beq j id<;>rfl
   |ret=>rfl
 |loop live x ih =>
  intro fr H;show lp (qth live (kev x) E lp base) ⟨fr,H⟩=_
  rw[qaj];congr 1
  funext s
  exact ih _ _
 |rng f g ps live a x iha ihx=>intro fr H;rfl
 |exit id=>intro fr H;rfl
 |ret=>intro fr H;rfl
 |bad=>intro fr H;rfl
def klp (n:Nat):(St→Res)→St→Res := @Nat.rec (fun _=>(St→Res)→St→Res) (fun _ _=>none) (fun _ ih f s => @Option.rec (Ex×St) (fun _=>Res) none (fun p => @Prod.rec Ex St (fun _=>Res) (fun e s' => @Ex.rec (fun _=>Res) (ih f s') (fun j=>some (.exit j,s')) (some (.ret,s')) e) p) (f s)) n
theorem qnt : ∀n,klp n=lpN n
 | 0=>rfl
 |n+1=>by
  funext f s
  have ih:=qnt n
  show @Option.rec (Ex×St) (fun _=>Res) none (fun p => @Prod.rec Ex St (fun _=>Res) (fun e s' => @Ex.rec (fun _=>Res) (klp n f s') (fun j=>some (.exit j,s')) (some (.ret,s')) e) p) (f s)=_
  rw[ih,lpN];cases f s with
  |none=>rfl
  |some p=>obtain⟨e,s'⟩:=p;cases e<;>rfl
def qsA (E:Env) (rs:List RV) (s:St):Option (PV×Heap):=match runG E (qaz s.fr) s.H with
   |some H'=>match results s.fr H' rs with
    |some vs=>some (qeK vs,H')
    |none=>none
   |none=>none
def qo8 (E:Env) (rs:List RV) (r:Res):Option (PV×Heap) := @Option.rec (Ex×St) (fun _=>Option (PV×Heap)) none (fun p => @Prod.rec Ex St (fun _=>Option (PV×Heap)) (fun e s => @Ex.rec (fun _=>Option (PV×Heap)) (qsA E rs s) (fun _=>none) (qsA E rs s) e) p) r
def qlg:List PV→Nat→Fr:=fun l => @List.rec PV (fun _=>Nat→Fr) (fun _=>[]) (fun v _ ih j=>qkH (ih (Nat.succ j)) [(j,v)]) l
theorem qqJ : ∀(l:List PV) (j:Nat),qlg l j=Fr.ofArgs j l
 | [],j=>rfl
 |v::r,j=>by show qkH (qlg r (j+1)) [(j,v)]=_;rw[qqD,qqJ r,Fr.ofArgs]
def kfn (E:Env) (lp:(St→Res)→St→Res) (F:PF) (args:List PV) (H:Heap):Option (PV×Heap) := @PF.rec (fun _=>Option (PV×Heap)) (fun nargs rs body => @Bool.rec (fun _=>Option (PV×Heap)) none (qo8 E rs (kev body E lp (qhC H) (qlg args 0) H)) (Nat.beq (qhC args) nargs)) F
theorem qtM (E:Env) (lp:(St→Res)→St→Res) (F:PF) (args:List PV) (H:Heap):kfn E lp F args H=qbW E lp F args H:=by
 obtain⟨nargs,rs,body⟩:=F;show @Bool.rec (fun _=>Option (PV×Heap)) none (qo8 E rs (kev body E lp (qhC H) (qlg args 0) H)) (Nat.beq (qhC args) nargs)=_
 rw[qk6,qk6,qC3,qqJ];unfold qbW;by_cases h:args.length=nargs
 ·rw[if_pos h,h,Nat.beq_refl];show qo8 E rs (qaj E lp H.length body ⟨Fr.ofArgs 0 args,H⟩)=_
  cases qaj E lp H.length body ⟨Fr.ofArgs 0 args,H⟩ with
  |none=>rfl
  |some p=>obtain⟨e,s⟩:=p;cases e<;>rfl
 ·rw[if_neg h,qkX h]
abbrev KY:=Nat→List PV→Heap→Option (PV×Heap)
structure KP where
 it:KY→KY
 val:Nat→List DV→Option (PV×Bool)
def qqw (E:Env) (lp:(St→Res)→St→Res) (args:List PV) (H:Heap) (F:PF):Option (PV×Heap) := @Option.rec (PV×Heap) (fun _=>Option (PV×Heap)) none (fun p => @Prod.rec PV Heap (fun _=>Option (PV×Heap)) (fun v H'=>some (gcV (qhC H) v H')) p) (kfn E lp F args H)
def kit (T:Tab) (n:Nat) (P:KP) (Y:KY) (f:Nat) (args:List PV) (H:Heap):Option (PV×Heap) := @Option.rec PF (fun _=>Option (PV×Heap)) (T.R f args H) (qqw ⟨T.G,P.it noY,P.val,Y,P.it,T.dok⟩ (klp n) args H) (T.F f)
def qqo (E:Env) (lp:(St→Res)→St→Res) (args:List DV) (F:PF):Option (PV×Bool) := @Option.rec (PV×Heap) (fun _=>Option (PV×Bool)) none (fun p => @Prod.rec PV Heap (fun _=>Option (PV×Bool)) (fun v H'=>purT H' v) p) (kfn E lp F (qcK .d args) [])
def qpZ (T:Tab) (n:Nat) (P:KP) (f:Nat) (args:List DV):Option (PV×Bool) := @Option.rec PF (fun _=>Option (PV×Bool)) (T.X f args) (qqo ⟨T.G,P.it noY,P.val,noY,P.it,T.dok⟩ (klp n) args) (T.F f)
def kN (T:Tab) (n:Nat):KP := @Nat.rec (fun _=>KP) ⟨fun _ _ _ _=>none,fun _ _=>none⟩ (fun n P=>⟨kit T n P,qpZ T n P⟩) n
theorem qn0 (T:Tab) : ∀n,(kN T n).it=itN T n∧(kN T n).val=qcV T n
 | 0=>⟨by funext Y f a H;rw[itN];rfl,by funext f a;rw[qcV];rfl⟩
 |n+1=>by
  obtain⟨h1,h2⟩:=qn0 T n;constructor
  ·funext Y f a H
   show kit T n (kN T n) Y f a H=_
   rw[qgj];unfold kit;cases T.F f with
   |none=>rfl
   |some F =>
    show qqw _ (klp n) a H F=_
    unfold qqw;rw[h1,h2,qnt,qtM,qk6];show @Option.rec (PV×Heap) (fun _=>Option (PV×Heap)) none _ (qbW (envY T n Y) (lpN n) F a H)=_
    dsimp only
    cases qbW (envY T n Y) (lpN n) F a H with
    |none=>rfl
    |some p=>rfl
  ·funext f a
   show qpZ T n (kN T n) f a=_
   rw[qhD];unfold qpZ;cases T.F f with
   |none=>rfl
   |some F =>
    show qqo _ (klp n) a F=_
    unfold qqo;rw[h1,h2,qnt,qtM,qaO];show @Option.rec (PV×Heap) (fun _=>Option (PV×Bool)) none _ (qbW (qcx T n) (lpN n) F (a.map .d) [])=_
    dsimp only
    cases qbW (qcx T n) (lpN n) F (a.map .d) [] with
    |none=>rfl
    |some p=>rfl
theorem qig {T:Tab} {f:Nat} {args:List DV} {r:PV×Bool} (n:Nat) (h:(kN T n).val f args=some r):T.val f args=some r:=(qiA T f args r).2 ⟨n,by rw[←(qn0 T n).2];exact h⟩
end
end Go.Sim

