/- Part 13 of the proof: CbFast. -/
import Derived.Test.YtcihddahcplehaaGreatDoorB3
namespace Go.Sim
noncomputable section
def qkd (fr:Fr) (t:Nat):PV := @List.rec (Nat×PV) (fun _=>PV) .u (fun p _ ih => @Prod.rec Nat PV (fun _=>PV) (fun j v => @Bool.rec (fun _=>PV) ih v (Nat.beq j t)) p) fr
theorem qk7 {j t:Nat} (h : ¬j=t):Nat.beq j t=false:=by
 cases e:Nat.beq j t with
 |false=>rfl
 |true=>exact absurd (Nat.eq_of_beq_eq_true e) h
theorem qnX : ∀fr t,qkd fr t=Fr.get fr t
 | [],t=>rfl
 | (j,v)::r,t=>by
  have ih:=qnX r t
  show @Bool.rec (fun _=>PV) (qkd r t) v (Nat.beq j t)=_
  rw[ih,Fr.get];by_cases h:j=t
  ·subst h;rw[if_pos rfl,Nat.beq_refl]
  ·rw[if_neg h,qk7 h]
def qqh (fr:Fr) (t:Nat) (v:PV):Fr := @List.rec (Nat×PV) (fun _=>Fr) [(t,v)] (fun p r ih => @Prod.rec Nat PV (fun _=>Fr) (fun j x => @Bool.rec (fun _=>Fr) (@Bool.rec (fun _=>Fr) ((j,x)::ih) ((t,v)::(j,x)::r) (Nat.ble (Nat.succ j) t)) ((t,v)::r) (Nat.beq j t)) p) fr
theorem qtz : ∀fr t v,qqh fr t v=Fr.set fr t v
 | [],t,v=>rfl
 | (j,x)::r,t,v=>by
  have ih:=qtz r t v
  show @Bool.rec (fun _=>Fr) (@Bool.rec (fun _=>Fr) ((j,x)::qqh r t v) ((t,v)::(j,x)::r) (Nat.ble (Nat.succ j) t)) ((t,v)::r) (Nat.beq j t)=_
  rw[ih,Fr.set];by_cases h:j=t
  ·subst h;rw[if_pos rfl,Nat.beq_refl]
  ·rw[if_neg h,qk7 h];show @Bool.rec (fun _=>Fr) _ _ (Nat.ble (Nat.succ j) t)=_
   by_cases h2:j<t
   ·rw[if_pos h2,Nat.ble_eq_true_of_le h2]
   ·rw[if_neg h2,Bool.eq_false_iff.2 (fun e=>h2 (Nat.le_of_ble_eq_true e))]
def qmY (l:List Nat) (j:Nat):Bool := @List.rec Nat (fun _=>Bool) false (fun x _ ih => @Bool.rec (fun _=>Bool) ih true (Nat.beq x j)) l
theorem qyd : ∀l j,qmY l j=l.contains j
 | [],j=>rfl
 |x::r,j=>by
  have ih:=qyd r j
  show @Bool.rec (fun _=>Bool) (qmY r j) true (Nat.beq x j)=_
  rw[ih,List.contains_cons];by_cases h:x=j
  ·subst h;rw[Nat.beq_refl];simp
  ·rw[qk7 h];have:(j==x)=false:=by simpa using fun e=>h e.symm
   rw[this];rfl
def qlw (l:List Nat) (fr:Fr):Fr := @List.rec (Nat×PV) (fun _=>Fr) [] (fun p _ ih => @Prod.rec Nat PV (fun _=>Fr) (fun j v => @Bool.rec (fun _=>Fr) ((j,v)::ih) (@Bool.rec (fun _=>Fr) ((j,v)::ih) ih (Nat.ble (Nat.succ j) 100000)) (qmY l j)) p) fr
theorem qwv (l:List Nat) : ∀fr,qlw l fr=Fr.drop l fr
 | []=>rfl
 | (j,v)::r=>by
  have ih:=qwv l r
  show @Bool.rec (fun _=>Fr) ((j,v)::qlw l r) (@Bool.rec (fun _=>Fr) ((j,v)::qlw l r) (qlw l r) (Nat.blt j gh)) (qmY l j)=_
  rw[ih,Fr.drop,qyd];cases l.contains j<;>cases Nat.blt j gh<;>rfl
def qcr {α β:Type} (f:α→β) (l:List α):List β := @List.rec α (fun _=>List β) [] (fun x _ ih=>f x::ih) l
theorem qaD {α β:Type} (f:α→β) : ∀l,qcr f l=l.map f
 | []=>rfl
 |x::r=>by show f x::qcr f r=_;rw[qaD f r];rfl
def qlA {α:Type} (l m:List α):List α := @List.rec α (fun _=>List α) m (fun x _ ih=>x::ih) l
theorem qq8 {α:Type} : ∀(l m:List α),qlA l m=l++m
 | [],m=>rfl
 |x::r,m=>by show x::qlA r m=_;rw[qq8 r m];rfl
def qg9 {α:Type} (l:List α):Nat := @List.rec α (fun _=>Nat) 0 (fun _ _ ih=>Nat.succ ih) l
theorem qkw {α:Type} : ∀(l:List α),qg9 l=l.length
 | []=>rfl
 |x::r=>by show Nat.succ (qg9 r)=_;rw[qkw r];rfl
def qrm {α:Type} (l:List α):Nat→Option α := @List.rec α (fun _=>Nat→Option α) (fun _=>none) (fun x _ ih n => @Nat.rec (fun _=>Option α) (some x) (fun m _=>ih m) n) l
theorem qyU {α:Type} : ∀(l:List α) (n:Nat),qrm l n=l[n]?
 | [],n=>rfl
 |x::r,0=>rfl
 |x::r,n+1=>by show qrm r n=_;rw[qyU r n];rfl
def qq2 {α:Type} (x:α) (n:Nat) (l:List α):List α := @Nat.rec (fun _=>List α) l (fun _ ih=>x::ih) n
theorem qvn {α:Type} (x:α) (l:List α) : ∀n,qq2 x n l=List.replicate n x++l
 | 0=>rfl
 |n+1=>by show x::qq2 x n l=_;rw[qvn x l n];rfl
def qgc (H:Heap) (o:Nat):Option Obj := @Option.rec (Option Obj) (fun _=>Option Obj) none (fun x=>x) (qrm H o)
theorem qIv (H:Heap) (o:Nat):qgc H o=Heap.obj H o:=by
 unfold qgc Heap.obj;rw[qyU];cases H[o]? <;> rfl
def krd (E:Env) (fr:Fr) (x:Rand):PV := @Rand.rec (fun _=>PV) (fun t=>qkd fr t) (fun v=>.d v) (fun n=>match E.G n with|some (v,k)=>.q v k 0|none=>.u) (fun n=>.f n []) x
theorem qwS (E:Env) (fr:Fr):krd E fr=rd E fr:=by
 funext x
 cases x with
 |t n=>exact qnX fr n
 |c v=>rfl
 |f n=>rfl
 |g n=>simp only[krd,rd];cases E.G n<;>rfl
def qaJ:Heap→K→PV→Option PV:=qbk
def qaG:Heap→K→PV→PV→Option Heap:=qb6
def qaK:Heap→K→PV→PV→Option PV:=iaddr
def qaH:BinOp→PV→PV→Option DV:=qaW
def qaF:Nat→PV→Option PV:=qfE
def qaI:Heap→Bool→PV→Option Nat:=qbv
def qqJ (x:Rand) (E:Env) (fr:Fr) (H:Heap) (id:Nat):Option (PV×Heap):=some (krd E fr x,H)
def qn2 (c:Rand) (a:Rand) (b:Rand) (E:Env) (fr:Fr) (H:Heap) (id:Nat):Option (PV×Heap):=match krd E fr c with
  | .d (.b true)=>some (krd E fr a,H)
  | .d (.b false)=>some (krd E fr b,H)
  | _=>none
def qoa (k:K) (z:DV) (E:Env) (fr:Fr) (H:Heap) (id:Nat):Option (PV×Heap):=some (.p id 0 0,H.put id (some (.box k (.d z))))
def qqk (k:K) (x:Rand) (E:Env) (fr:Fr) (H:Heap) (id:Nat):Option (PV×Heap):=if fits k (krd E fr x) then some (.p id 0 0,H.put id (some (.box k (krd E fr x)))) else none
def qoP (z:List DV) (parts:List (Nat×K×Rand)) (E:Env) (fr:Fr) (H:Heap) (id:Nat):Option (PV×Heap):=match qcl (z.map .d) (parts.map fun x=>(x.1,x.2.1,krd E fr x.2.2)) with
  |some cs=>some (mkA cs,H)
  |none=>none
def qrR (k:K) (z:DV) (len:Nat) (parts:List (Nat×Rand)) (E:Env) (fr:Fr) (H:Heap) (id:Nat):Option (PV×Heap):=match qbg H k (List.replicate len z) (parts.map fun x=>(x.1,krd E fr x.2)) with
  |some (es,os)=>some (.r id k 0 len true,(frz H os).put id (some (.sl k 0 es)))
  |none=>none
def qq3 (k:K) (x:Rand) (E:Env) (fr:Fr) (H:Heap) (id:Nat):Option (PV×Heap):=opt (qaJ H k (krd E fr x)) H
def qnY (k:K) (x:Rand) (y:Rand) (E:Env) (fr:Fr) (H:Heap) (id:Nat):Option (PV×Heap):=match qaG H k (krd E fr x) (krd E fr y) with|some H'=>some (.u,H')|none=>none
def qqI (op:BinOp) (x:Rand) (y:Rand) (E:Env) (fr:Fr) (H:Heap) (id:Nat):Option (PV×Heap):=qfD (qaH op (krd E fr x) (krd E fr y)) H
def qp3 (neg:Bool) (n:List Nat) (x:Rand) (y:Rand) (E:Env) (fr:Fr) (H:Heap) (id:Nat):Option (PV×Heap):=match eqA n (krd E fr x) (krd E fr y) with
  |some e=>some (.d (.b (if neg then !e else e)),H)
  |none=>none
def qpn (neg:Bool) (x:Rand) (y:Rand) (E:Env) (fr:Fr) (H:Heap) (id:Nat):Option (PV×Heap):=match krd E fr x,krd E fr y with
  | .d (.b a),.d (.b b)=>some (.d (.b (if neg then !(a==b) else a==b)),H)
  | _,_=>none
def qqj (neg:Bool) (kd:Nat) (x:Rand) (E:Env) (fr:Fr) (H:Heap) (id:Nat):Option (PV×Heap):=match qgm kd (krd E fr x) with|some b=>some (.d (.b (if neg then !b else b)),H)|none=>none
def qoA (op:UnOp) (x:Rand) (E:Env) (fr:Fr) (H:Heap) (id:Nat):Option (PV×Heap):=qfD (unA op (krd E fr x)) H
def qrf (k:IntKind) (x:Rand) (E:Env) (fr:Fr) (H:Heap) (id:Nat):Option (PV×Heap):=match krd E fr x with | .d (.i _ n)=>some (.d (.i k (k.wrap n)),H)|_=>none
def qoR (x:Rand) (lo:Option Rand) (hi:Option Rand) (E:Env) (fr:Fr) (H:Heap) (id:Nat):Option (PV×Heap):=match krd E fr x with
  | .d (.s s)=>match bnd s.length s.length (hi.map (krd E fr)) with
   |some h=>match bnd 0 h (lo.map (krd E fr)) with
    |some l=>some (.d (.s ((s.take h).drop l)),H)
    |none=>none
   |none=>none
  | _=>none
def qpO (k:K) (x:Rand) (lo:Option Rand) (hi:Option Rand) (mx:Option Rand) (E:Env) (fr:Fr) (H:Heap) (id:Nat):Option (PV×Heap):=opt (slA H k (krd E fr x) (lo.map (krd E fr)) (hi.map (krd E fr)) (mx.map (krd E fr))) H
def qoq (off:Nat) (x:Rand) (E:Env) (fr:Fr) (H:Heap) (id:Nat):Option (PV×Heap):=opt (qaF off (krd E fr x)) H
def qso (off:Nat) (k:K) (x:Rand) (E:Env) (fr:Fr) (H:Heap) (id:Nat):Option (PV×Heap):=opt (qet off k (krd E fr x)) H
def qpk (k:K) (x:Rand) (i:Rand) (E:Env) (fr:Fr) (H:Heap) (id:Nat):Option (PV×Heap):=opt (qaK H k (krd E fr x) (krd E fr i)) H
def qoE (len:Nat) (k:K) (x:Rand) (i:Rand) (E:Env) (fr:Fr) (H:Heap) (id:Nat):Option (PV×Heap):=match asI (krd E fr i) with
  |some n=>match inR n len with|some j=>opt (qaF (j*k.size) (krd E fr x)) H|none=>none
  |none=>none
def qow (x:Rand) (i:Rand) (E:Env) (fr:Fr) (H:Heap) (id:Nat):Option (PV×Heap):=match krd E fr x,asI (krd E fr i) with
  | .d (.s s),some n=>if 0≤n then match s[n.toNat]? with
   |some b=>some (.d (.i .u8 b.toNat),H)
   |none=>none
   else none
  | _,_=>none
def qpP (len:Nat) (k:K) (x:Rand) (i:Rand) (E:Env) (fr:Fr) (H:Heap) (id:Nat):Option (PV×Heap):=match asI (krd E fr i) with
  |some n=>match inR n len with
   |some j=>opt (qet (j*k.size) k (krd E fr x)) H
   |none=>none
  |none=>none
def qqC (str:Bool) (x:Rand) (E:Env) (fr:Fr) (H:Heap) (id:Nat):Option (PV×Heap):=match qaI H str (krd E fr x) with|some n=>some (.d (.i .i64 n),H)|none=>none
def qoW (k:K) (bytes:Nat) (x:Rand) (y:Rand) (E:Env) (fr:Fr) (H:Heap) (id:Nat):Option (PV×Heap):=qcm H id k bytes (krd E fr x) (krd E fr y)
def qqU (f:Nat) (args:List Rand) (E:Env) (fr:Fr) (H:Heap) (id:Nat):Option (PV×Heap):=match qaL H (qcr (krd E fr) args) with
  |some (ds,os)=>match E.val f ds with
   |some (r,_)=>some (r,if os.isEmpty||r.scal then H else frz H os)
   |none=>none
  |none=>none
def qqF (f:Nat) (args:List Rand) (E:Env) (fr:Fr) (H:Heap) (id:Nat):Option (PV×Heap):=match qaL H (qcr (krd E fr) args) with
  |some (ds,os)=>match E.val f ds with
   |some (.d (.l k es _),true)=>some (.r id k 0 es.length false,(if os.isEmpty then H else frz H os).put id (some (.sl k 0 es)))
   | _=>none
  |none=>none
def qry (f:Nat) (args:List Rand) (E:Env) (fr:Fr) (H:Heap) (id:Nat):Option (PV×Heap):=E.ref f (qcr (krd E fr) args) H
def qJ1 (mode f:Nat) (args:List Rand):Env→Fr→Heap→Nat→Option (PV×Heap) := @Nat.rec (fun _=>Env→Fr→Heap→Nat→Option (PV×Heap)) (qqU f args) (fun m _ => @Nat.rec (fun _=>Env→Fr→Heap→Nat→Option (PV×Heap)) (qqF f args) (fun _ _=>qry f args) m) mode
def qoB (x:Rand) (args:List Rand) (E:Env) (fr:Fr) (H:Heap) (id:Nat):Option (PV×Heap):=match krd E fr x with
  | .f n caps=>match (if caps.isEmpty then qaZ (qcr (krd E fr) args) else none) with
   |some ds=>match E.val n ds with
    |some (r,_)=>some (r,H)
    |none=>none
   |none=>E.ref n (qcr (krd E fr) args++caps) H
  | .m n firsts=>match qaZ (firsts++qcr (krd E fr) args) with
   |some ds=>match E.val n ds with
    |some (r,_)=>some (r,H)
    |none=>none
   |none=>E.ref n (firsts++qcr (krd E fr) args) H
  | .h o=>E.yld o (qcr (krd E fr) args) H
  | _=>none
def qpF (x:Rand) (i:Nat) (E:Env) (fr:Fr) (H:Heap) (id:Nat):Option (PV×Heap):=match krd E fr x with
  | .t vs=>opt vs[i]? H
  | _=>none
def qrw (f:Nat) (caps:List Rand) (E:Env) (fr:Fr) (H:Heap) (id:Nat):Option (PV×Heap):=some (.f f (qcr (krd E fr) caps),H)
def qqV (f:Nat) (caps:List Rand) (E:Env) (fr:Fr) (H:Heap) (id:Nat):Option (PV×Heap):=some (.m f (qcr (krd E fr) caps),H)
def qsC (p:Nat) (args:List Rand) (E:Env) (fr:Fr) (H:Heap) (id:Nat):Option (PV×Heap):=opt (qic p (qcr (krd E fr) args)) H
def qpj (x:Rand) (E:Env) (fr:Fr) (H:Heap) (id:Nat):Option (PV×Heap):=match krd E fr x with
  | .p o i c=>some (.p o i c,H)
  | .q v k c=>some (.q v k c,H)
  | .f n cs=>some (.f n cs,H)
  | _=>none
def qsa (k:K) (bytes:Nat) (z:DV) (len:Rand) (cap:Rand) (E:Env) (fr:Fr) (H:Heap) (id:Nat):Option (PV×Heap):=match asI (krd E fr len),asI (krd E fr cap) with
  |some n,some c=>if 0≤n∧n≤c∧c*bytes≤2^47 then some (.r id k 0 n.toNat false,H.put id (some (.sl k 0 (List.replicate n.toNat z)))) else none
  | _,_=>none
def qoO (mx:Bool) (args:List Rand) (E:Env) (fr:Fr) (H:Heap) (id:Nat):Option (PV×Heap):=match qcr (krd E fr) args with
  |v::r=>opt (mmA mx v r) H
  | []=>none
def qqy (k:K) (x:Rand) (y:Rand) (E:Env) (fr:Fr) (H:Heap) (id:Nat):Option (PV×Heap):=match krd E fr x with
  | .r o k' off len _=>match qgc H o,qaV H k (krd E fr y) with
   |some (.sl k'' ro es),some ys =>
    if K.eq k k'&&K.eq k k''&&decide (off+len≤es.length)&&decide (ro≤off) then
     let n:=min ys.length len
     some (.d (.i .i64 n),H.put o (some (.sl k ro (putAt es off (ys.take n)))))
    else none
   | _,_=>none
  | _=>none
def qqW (k:K) (z:DV) (x:Rand) (E:Env) (fr:Fr) (H:Heap) (id:Nat):Option (PV×Heap):=match krd E fr x with
  | .r o k' off len _=>match qgc H o with
   |some (.sl k'' ro es) =>
    if K.eq k k'&&K.eq k k''&&decide (off+len≤es.length)&&decide (ro≤off) then some (.t [],H.put o (some (.sl k ro (putAt es off (List.replicate len z))))) else none
   | _=>none
  | .d (.l _ [] _)=>some (.t [],H)
  | _=>none
def qsF (t:Nat) (x:Rand) (E:Env) (fr:Fr) (H:Heap) (id:Nat):Option (PV×Heap):=match pur H (krd E fr x) with
  |some (v,os)=>some (.d (.ifc t v),frz H os)
  |none=>some (.w t (krd E fr x),H)
def qr5 (t:Nat) (z:DV) (ok:Bool) (x:Rand) (E:Env) (fr:Fr) (H:Heap) (id:Nat):Option (PV×Heap):=match krd E fr x with
  | .d (.ifc u v)=>if u=t then some (if ok then .t [.d v,.d (.b true)] else .d v,H) else if ok then some (.t [.d z,.d (.b false)],H) else none
  | .w u v=>if u=t then some (if ok then .t [v,.d (.b true)] else v,H) else if ok then some (.t [.d z,.d (.b false)],H) else none
  | .d .ni=>if ok then some (.t [.d z,.d (.b false)],H) else none
  | _=>none
def qrl (tab:List (Nat×Nat×Nat)) (x:Rand) (args:List Rand) (E:Env) (fr:Fr) (H:Heap) (id:Nat):Option (PV×Heap):=match krd E fr x with
  | .d (.ifc u v)=>match qhO u tab with
   |some (0,f)=>match qaL H (qcr (krd E fr) args) with
    |some (ds,os)=>match E.val f (v::ds) with
     |some (r,_)=>some (r,if os.isEmpty||r.scal then H else frz H os)
     |none=>none
    |none=>none
   |some (_,f)=>E.ref f (.d v::qcr (krd E fr) args) H
   |none=>none
  | _=>none
def qsz  (E:Env) (fr:Fr) (H:Heap) (id:Nat):Option (PV×Heap):=some (.h id,H.put id (some (.mp [])))
def qst (ky:Ky) (z:DV) (ok:Bool) (x:Rand) (i:Rand) (E:Env) (fr:Fr) (H:Heap) (id:Nat):Option (PV×Heap):=match krd E fr i,krd E fr x with
  | .d k,.h o=>if qf9 ky k then match qgc H o with
   |some (.mp es)=>match qcI k es with
    |some r=>some (if ok then .t [.d (r.getD z),.d (.b r.isSome)] else .d (r.getD z),H)
    |none=>none
   | _=>none
   else none
  | _,_=>none
def qok (ky:Ky) (x:Rand) (i:Rand) (v:Rand) (E:Env) (fr:Fr) (H:Heap) (id:Nat):Option (PV×Heap):=match krd E fr i,krd E fr x,pur H (krd E fr v) with
  | .d k,.h o,some (xv,os)=>if qf9 ky k then match qgc H o with
   |some (.mp es)=>match qcO k xv es with
    |some es'=>some (.u,(frz H os).put o (some (.mp es')))
    |none=>none
   | _=>none
   else none
  | _,_,_=>none
def qpU (ky:Ky) (x:Rand) (i:Rand) (E:Env) (fr:Fr) (H:Heap) (id:Nat):Option (PV×Heap):=match krd E fr i,krd E fr x with
  | .d k,.h o=>if qf9 ky k then match qgc H o with
   |some (.mp es)=>match qqz k es with
    |some es'=>some (.u,H.put o (some (.mp es')))
    |none=>none
   | _=>none
   else none
  | _,_=>none
def qoh (x:Rand) (E:Env) (fr:Fr) (H:Heap) (id:Nat):Option (PV×Heap):=match krd E fr x with
  | .h o=>match qgc H o with
   |some (.mp es)=>some (.d (.i .i64 es.length),H)
   | _=>none
  | _=>none
def qsg (x:Rand) (E:Env) (fr:Fr) (H:Heap) (id:Nat):Option (PV×Heap):=match krd E fr x with
  | .d (.s l)=>some (.h id,H.put id (some (.si l 0)))
  | _=>none
def qoI (x:Rand) (E:Env) (fr:Fr) (H:Heap) (id:Nat):Option (PV×Heap):=match krd E fr x with
  | .h o=>match qgc H o with
   |some (.si l pos) =>
    if pos<l.length then
     let c:=Utf8.decode ⟨l.toArray⟩ pos
     some (.t [.d (.b true),.d (.i .i64 pos),.d (.i .i32 c.1)],H.put o (some (.si l (pos+c.2))))
    else some (.t [.d (.b false)],H)
   | _=>none
  | _=>none
def qpc (x:Rand) (E:Env) (fr:Fr) (H:Heap) (id:Nat):Option (PV×Heap):=match krd E fr x with
  | .d (.s _)=>none
  |y=>match qaV H none y with
   |some es=>match qip es with|some l=>some (.d (.s l),H)|none=>none
   |none=>none
def qq1 (x:Rand) (E:Env) (fr:Fr) (H:Heap) (id:Nat):Option (PV×Heap):=match krd E fr x with
  | .d (.s l)=>some (.d (.l none (bytesOf l) false),H)
  | _=>none
def qrh (x:Rand) (y:Rand) (E:Env) (fr:Fr) (H:Heap) (id:Nat):Option (PV×Heap):=match krd E fr x,krd E fr y with
  | .f n caps,.u=>some (.g (.f n caps),H)
  | _,_=>none
def qr6  (E:Env) (fr:Fr) (H:Heap) (id:Nat):Option (PV×Heap):=none
def kop (op:IOp):Env→Fr→Heap→Nat→Option (PV×Heap) := @IOp.rec (fun _=>Env→Fr→Heap→Nat→Option (PV×Heap)) qqJ qn2 qoa qqk qoP qrR qq3 qnY qqI qp3 qpn qqj qoA qrf qoR qpO qoq qso qpk qoE qow qpP qqC qoW qJ1 qoB qpF qrw qqV qsC qpj qsa qoO qqy qqW qsF qr5 qrl qsz qst qok qpU qoh qsg qoI qpc qq1 qrh qr6 op
theorem qHM (op:IOp) (E:Env) (fr:Fr) (H:Heap) (id:Nat):kop op E fr H id=qaa E (rd E fr) H id op:=by
 rw[←qwS];have ko:qgc=Heap.obj:=by funext H o;exact qIv H o
 cases op with
 |mov x=>show qqJ x E fr H id=_;simp only[qqJ,qaa,qaD,ko,qaJ,qaG,qaK,qaH,qaF,qaI]<;>rfl
 |pick c a b=>show qn2 c a b E fr H id=_;simp only[qn2,qaa,qaD,ko,qaJ,qaG,qaK,qaH,qaF,qaI]<;>rfl
 |alloc k z=>show qoa k z E fr H id=_;simp only[qoa,qaa,qaD,ko,qaJ,qaG,qaK,qaH,qaF,qaI]<;>rfl
 |box k x=>show qqk k x E fr H id=_;simp only[qqk,qaa,qaD,ko,qaJ,qaG,qaK,qaH,qaF,qaI]<;>rfl
 |agg z parts=>show qoP z parts E fr H id=_;simp only[qoP,qaa,qaD,ko,qaJ,qaG,qaK,qaH,qaF,qaI]<;>rfl
 |bsl k z len parts=>show qrR k z len parts E fr H id=_;simp only[qrR,qaa,qaD,ko,qaJ,qaG,qaK,qaH,qaF,qaI]<;>rfl
 |load k x=>show qq3 k x E fr H id=_;simp only[qq3,qaa,qaD,ko,qaJ,qaG,qaK,qaH,qaF,qaI]<;>rfl
 |store k x y=>show qnY k x y E fr H id=_;simp only[qnY,qaa,qaD,ko,qaJ,qaG,qaK,qaH,qaF,qaI]<;>rfl
 |bin op x y=>show qqI op x y E fr H id=_;simp only[qqI,qaa,qaD,ko,qaJ,qaG,qaK,qaH,qaF,qaI]<;>rfl
 |eqv neg n x y=>show qp3 neg n x y E fr H id=_;simp only[qp3,qaa,qaD,ko,qaJ,qaG,qaK,qaH,qaF,qaI]<;>rfl
 |eqb neg x y=>show qpn neg x y E fr H id=_;simp only[qpn,qaa,qaD,ko,qaJ,qaG,qaK,qaH,qaF,qaI]<;>rfl
 |isnil neg kd x=>show qqj neg kd x E fr H id=_;simp only[qqj,qaa,qaD,ko,qaJ,qaG,qaK,qaH,qaF,qaI]<;>rfl
 |un op x=>show qoA op x E fr H id=_;simp only[qoA,qaa,qaD,ko,qaJ,qaG,qaK,qaH,qaF,qaI]<;>rfl
 |conv k x=>show qrf k x E fr H id=_;simp only[qrf,qaa,qaD,ko,qaJ,qaG,qaK,qaH,qaF,qaI]<;>rfl
 |slS x lo hi=>show qoR x lo hi E fr H id=_;simp only[qoR,qaa,qaD,ko,qaJ,qaG,qaK,qaH,qaF,qaI]<;>rfl
 |sl k x lo hi mx=>show qpO k x lo hi mx E fr H id=_;simp only[qpO,qaa,qaD,ko,qaJ,qaG,qaK,qaH,qaF,qaI]<;>rfl
 |faddr off x=>show qoq off x E fr H id=_;simp only[qoq,qaa,qaD,ko,qaJ,qaG,qaK,qaH,qaF,qaI]<;>rfl
 |field off k x=>show qso off k x E fr H id=_;simp only[qso,qaa,qaD,ko,qaJ,qaG,qaK,qaH,qaF,qaI]<;>rfl
 |iaddr k x i=>show qpk k x i E fr H id=_;simp only[qpk,qaa,qaD,ko,qaJ,qaG,qaK,qaH,qaF,qaI]<;>rfl
 |iaddrA len k x i=>show qoE len k x i E fr H id=_;simp only[qoE,qaa,qaD,ko,qaJ,qaG,qaK,qaH,qaF,qaI]<;>rfl
 |idxS x i=>show qow x i E fr H id=_;simp only[qow,qaa,qaD,ko,qaJ,qaG,qaK,qaH,qaF,qaI]<;>rfl
 |idxA len k x i=>show qpP len k x i E fr H id=_;simp only[qpP,qaa,qaD,ko,qaJ,qaG,qaK,qaH,qaF,qaI]<;>rfl
 |len str x=>show qqC str x E fr H id=_;simp only[qqC,qaa,qaD,ko,qaJ,qaG,qaK,qaH,qaF,qaI]<;>rfl
 |app k bytes x y=>show qoW k bytes x y E fr H id=_;simp only[qoW,qaa,qaD,ko,qaJ,qaG,qaK,qaH,qaF,qaI]<;>rfl
 |call m f args=>match m with
  | 0=>show qqU f args E fr H id=_;simp only[qqU,qaa,qaD,ko]<;>rfl
  | 1=>show qqF f args E fr H id=_;simp only[qqF,qaa,qaD,ko]<;>rfl
  |m+2=>show qry f args E fr H id=_;simp only[qry,qaa,qaD,ko]<;>rfl
 |callv x args=>show qoB x args E fr H id=_;simp only[qoB,qaa,qaD,ko,qaJ,qaG,qaK,qaH,qaF,qaI]<;>rfl
 |ext x i=>show qpF x i E fr H id=_;simp only[qpF,qaa,qaD,ko,qaJ,qaG,qaK,qaH,qaF,qaI]<;>rfl
 |mkf f caps=>show qrw f caps E fr H id=_;simp only[qrw,qaa,qaD,ko,qaJ,qaG,qaK,qaH,qaF,qaI]<;>rfl
 |mkm f caps=>show qqV f caps E fr H id=_;simp only[qqV,qaa,qaD,ko,qaJ,qaG,qaK,qaH,qaF,qaI]<;>rfl
 |prim p args=>show qsC p args E fr H id=_;simp only[qsC,qaa,qaD,ko,qaJ,qaG,qaK,qaH,qaF,qaI]<;>rfl
 |nilck x=>show qpj x E fr H id=_;simp only[qpj,qaa,qaD,ko,qaJ,qaG,qaK,qaH,qaF,qaI]<;>rfl
 |mksl k bytes z len cap=>show qsa k bytes z len cap E fr H id=_;simp only[qsa,qaa,qaD,ko,qaJ,qaG,qaK,qaH,qaF,qaI]<;>rfl
 |minmax mx args=>show qoO mx args E fr H id=_;simp only[qoO,qaa,qaD,ko,qaJ,qaG,qaK,qaH,qaF,qaI]<;>rfl
 |copy k x y=>show qqy k x y E fr H id=_;simp only[qqy,qaa,qaD,ko,qaJ,qaG,qaK,qaH,qaF,qaI]<;>rfl
 |clr k z x=>show qqW k z x E fr H id=_;simp only[qqW,qaa,qaD,ko,qaJ,qaG,qaK,qaH,qaF,qaI]<;>rfl
 |mkif t x=>show qsF t x E fr H id=_;simp only[qsF,qaa,qaD,ko,qaJ,qaG,qaK,qaH,qaF,qaI]<;>rfl
 |tas t z ok x=>show qr5 t z ok x E fr H id=_;simp only[qr5,qaa,qaD,ko,qaJ,qaG,qaK,qaH,qaF,qaI]<;>rfl
 |invk tab x args=>show qrl tab x args E fr H id=_;simp only[qrl,qaa,qaD,ko,qaJ,qaG,qaK,qaH,qaF,qaI]<;>rfl
 |mkmap  => show qsz  E fr H id=_;simp only[qsz,qaa,qaD,ko,qaJ,qaG,qaK,qaH,qaF,qaI]<;>rfl
 |mget ky z ok x i=>show qst ky z ok x i E fr H id=_;simp only[qst,qaa,qaD,ko,qaJ,qaG,qaK,qaH,qaF,qaI]<;>rfl
 |mset ky x i v=>show qok ky x i v E fr H id=_;simp only[qok,qaa,qaD,ko,qaJ,qaG,qaK,qaH,qaF,qaI]<;>rfl
 |mdel ky x i=>show qpU ky x i E fr H id=_;simp only[qpU,qaa,qaD,ko,qaJ,qaG,qaK,qaH,qaF,qaI]<;>rfl
 |mlen x=>show qoh x E fr H id=_;simp only[qoh,qaa,qaD,ko,qaJ,qaG,qaK,qaH,qaF,qaI]<;>rfl
 |rngS x=>show qsg x E fr H id=_;simp only[qsg,qaa,qaD,ko,qaJ,qaG,qaK,qaH,qaF,qaI]<;>rfl
 |nxt x=>show qoI x E fr H id=_;simp only[qoI,qaa,qaD,ko,qaJ,qaG,qaK,qaH,qaF,qaI]<;>rfl
 |sb x=>show qpc x E fr H id=_;simp only[qpc,qaa,qaD,ko,qaJ,qaG,qaK,qaH,qaF,qaI]<;>rfl
 |bs x=>show qq1 x E fr H id=_;simp only[qq1,qaa,qaD,ko,qaJ,qaG,qaK,qaH,qaF,qaI]<;>rfl
 |dfr x y=>show qrh x y E fr H id=_;simp only[qrh,qaa,qaD,ko,qaJ,qaG,qaK,qaH,qaF,qaI]<;>rfl
 |bad  => show qr6  E fr H id=_;simp only[qr6,qaa,qaD,ko,qaJ,qaG,qaK,qaH,qaF,qaI]<;>rfl
def qlG (d:Option Nat) (fr:Fr) (v:PV):Fr := @Option.rec Nat (fun _=>Fr) fr (fun t=>qqh fr t v) d
abbrev KCf:=Env→Nat→Fr→Heap→Option St
def qmz (op:IOp) (id:Nat):Nat := @Bool.rec (fun _=>Nat) id (Nat.succ id) op.adds
def kgo (dst:Option Nat) (op:IOp) (ih:KCf) (E:Env) (id:Nat) (fr:Fr) (H:Heap):Option St := @Option.rec (PV×Heap) (fun _=>Option St) none (fun p => @Prod.rec PV Heap (fun _=>Option St) (fun v H'=>ih E (qmz op id) (qlG dst fr v) H') p) (kop op E fr H id)
def kno (dst:Option Nat) (op:IOp) (ih:KCf) (E:Env) (id:Nat) (fr:Fr) (H:Heap):Option St:=ih E (qmz op id) (qlG dst fr (.t [])) H
def qw4 (v:PV) (want:Bool) (go no:Option St):Option St:=match v with
 | .d (.b b)=>if b==want then go else no
 | .t []=>no
 | _=>none
def qqd (dst:Option Nat) (op:IOp) (g:Option (Nat×Bool)) (ih:KCf) (E:Env) (id:Nat) (fr:Fr) (H:Heap):Option St :=
 @Option.rec (Nat×Bool) (fun _=>Option St) (kgo dst op ih E id fr H) (fun p => @Prod.rec Nat Bool (fun _=>Option St) (fun t want=>qw4 (qkd fr t) want (kgo dst op ih E id fr H) (kno dst op ih E id fr H)) p) g
def qiN (l:List IOper):KCf := @List.rec IOper (fun _=>KCf) (fun _ _ fr H=>some ⟨fr,H⟩) (fun o _ ih => @IOper.rec (fun _=>KCf) (fun dst op g=>qqd dst op g ih) o) l
def ql9 (d:Option Nat) (fr:Fr) (v:PV):Fr:=match d with|some t=>fr.set t v|none=>fr
theorem qvJ (E:Env) : ∀(l:List IOper) (id:Nat) (fr:Fr) (H:Heap),qiN l E id fr H=qay E l id ⟨fr,H⟩
 | [],id,fr,H=>rfl
 | ⟨dst,op,g⟩::r,id,fr,H=>by
  have ih:=qvJ E r
  have hadd:qmz op id=if op.adds then id+1 else id:=by unfold qmz;cases op.adds<;>rfl
  have hd : ∀v,qlG dst fr v=ql9 dst fr v:=by intro v;cases dst<;>simp[qlG,qtz,ql9]
  have hgo:kgo dst op (qiN r) E id fr H=match qaa E (rd E fr) H id op with|some (v,H')=>qay E r (if op.adds then id+1 else id) ⟨ql9 dst fr v,H'⟩|none=>none:=by
   unfold kgo;rw[qHM];cases h:qaa E (rd E fr) H id op with
   |none=>rfl
   |some p=>obtain⟨v,H'⟩:=p;show qiN r E _ _ _=_;rw[ih,hadd,hd]
  have hno:kno dst op (qiN r) E id fr H=qay E r (if op.adds then id+1 else id) ⟨ql9 dst fr (.t []),H⟩:=by
   unfold kno;rw[ih,hadd,hd]
  show qqd dst op g (qiN r) E id fr H=_
  unfold qqd;rw[qay,hgo,hno];cases g with
  |none=>cases dst<;>rfl
  |some p =>
   obtain⟨t,want⟩:=p;show qw4 (qkd fr t) want _ _=_
   rw[qnX];cases dst<;>rfl
def qmf (ops:List IOper) (kill:List Nat) (E:Env) (fr:Fr) (H:Heap):Option St := @Option.rec St (fun _=>Option St) none (fun s => @St.rec (fun _=>Option St) (fun fr' H'=>some ⟨qlw kill fr',H'⟩) s) (qiN ops E (qg9 H) fr (qlA H (qq2 none (qaj ops) [])))
theorem qAZ (ops:List IOper) (kill:List Nat) (E:Env) (fr:Fr) (H:Heap):qmf ops kill E fr H=qcg E ops kill ⟨fr,H⟩:=by
 unfold qmf qcg;rw[qvJ,qkw,qq8,qvn,List.append_nil];cases qay E ops H.length ⟨fr,H++List.replicate (qaj ops) none⟩ with
 |none=>rfl
 |some s=>obtain⟨fr',H'⟩:=s;show some _=_;rw[qwv]
abbrev KR:=Env→((St→Res)→St→Res)→Nat→Fr→Heap→Res
def qty (r:Res) (f:Fr→Heap→Res):Res := @Option.rec (Ex×St) (fun _=>Res) none (fun p => @Prod.rec Ex St (fun _=>Res) (fun e s => @Ex.rec (fun _=>Res) (@St.rec (fun _=>Res) f s) (fun j=>some (.exit j,s)) (some (.ret,s)) e) p) r
def qIu:KR:=fun _ _ _ fr H=>some (.norm,⟨fr,H⟩)
def qz6 (ops:List IOper) (kill:List Nat):KR:=fun E _ _ fr H => @Option.rec St (fun _=>Res) none (fun s=>some (.norm,s)) (qmf ops kill E fr H)
def qFl (ops:List IOper) (bf kill:List Nat):KR:=fun E _ _ fr H=>match qc0 E ops bf kill ⟨fr,H⟩ with|some s'=>some (.norm,s')|none=>none
def qLK (_ _:PC) (a b:KR):KR:=fun E lp base fr H=>qty (a E lp base fr H) fun fr H=>b E lp base fr H
def qrG (c:Rand) (_ _:PC) (x y:KR):KR:=fun E lp base fr H=>match krd E fr c with
 | .d (.b true)=>x E lp base fr H
 | .d (.b false)=>y E lp base fr H
 | _=>none
def qyj (id:Nat) (r:Res):Res := @Option.rec (Ex×St) (fun _=>Res) none (fun p => @Prod.rec Ex St (fun _=>Res) (fun e s => @Ex.rec (fun _=>Res) (some (.norm,s)) (fun j => @Bool.rec (fun _=>Res) (some (.exit j,s)) (some (.norm,s)) (Nat.beq j id)) (some (.ret,s)) e) p) r
def qLm (id:Nat) (_:PC) (x:KR):KR:=fun E lp base fr H=>qyj id (x E lp base fr H)
def qus (live:List Nat) (x:KR) (E:Env) (lp:(St→Res)→St→Res) (base:Nat) (s:St):Res := @St.rec (fun _=>Res) (fun fr H=>x E lp base fr H) (gc live base s)
def qzJ (live:List Nat) (_:PC) (x:KR):KR:=fun E lp base fr H=>lp (qus live x E lp base) ⟨fr,H⟩
def qEB (f:Rand) (g:Nat) (ps live:List Nat) (a x:PC) (_ _:KR):KR:=fun E lp base fr H=>qah E lp base (.rng f g ps live a x) ⟨fr,H⟩
def qAA (id:Nat):KR:=fun _ _ _ fr H=>some (.exit id,⟨fr,H⟩)
def qAl:KR:=fun _ _ _ fr H=>some (.ret,⟨fr,H⟩)
def qId:KR:=fun _ _ _ _ _=>none
def kev (c:PC):KR := @PC.rec (fun _=>KR) qIu qz6 qFl qLK qrG qLm qzJ qEB qAA qAl qId c
theorem qJm (E:Env) (lp:(St→Res)→St→Res) (base:Nat) : ∀(c:PC) (fr:Fr) (H:Heap),kev c E lp base fr H=qah E lp base c ⟨fr,H⟩:=by
 intro c;induction c with
 |skip=>intro fr H;rfl
 |reg ops kill =>
  intro fr H;show @Option.rec St (fun _=>Res) none (fun s=>some (.norm,s)) (qmf ops kill E fr H)=_
  rw[qAZ,qah];cases qcg E ops kill ⟨fr,H⟩<;>rfl
 |regD ops bf kill=>intro fr H;rfl
 |seq a b iha ihb =>
  intro fr H;show qty (kev a E lp base fr H) (fun fr H=>kev b E lp base fr H)=_
  rw[iha,qah];cases qah E lp base a ⟨fr,H⟩ with
  |none=>rfl
  |some p =>
   obtain⟨e,s⟩:=p;cases e with
   |norm=>obtain⟨fr',H'⟩:=s;exact ihb fr' H'
   |exit j=>rfl
   |ret=>rfl
 |cond c x y ihx ihy =>
  intro fr H;show qrG c x y (kev x) (kev y) E lp base fr H=_
  unfold qrG;rw[qwS,qah,ihx,ihy];rfl
 |block id x ih =>
  intro fr H;show qyj id (kev x E lp base fr H)=_
  rw[ih,qah];cases qah E lp base x ⟨fr,H⟩ with
  |none=>rfl
  |some p =>
   obtain⟨e,s⟩:=p;cases e with
   |norm=>rfl
   |exit j =>
    show @Bool.rec (fun _=>Res) (some (.exit j,s)) (some (.norm,s)) (Nat.beq j id)=if j==id then _ else _
    have:(j==id)=Nat.beq j id:=by by_cases h:j=id; · { subst h;rw[Nat.beq_refl];simp }; · { rw[qk7 h];simpa using h }
    rw[this];cases Nat.beq j id<;>rfl
   |ret=>rfl
 |loop live x ih =>
  intro fr H;show lp (qus live (kev x) E lp base) ⟨fr,H⟩=_
  rw[qah];congr 1
  funext s
  exact ih _ _
 |rng f g ps live a x iha ihx=>intro fr H;rfl
 |exit id=>intro fr H;rfl
 |ret=>intro fr H;rfl
 |bad=>intro fr H;rfl
def klp (n:Nat):(St→Res)→St→Res := @Nat.rec (fun _=>(St→Res)→St→Res) (fun _ _=>none) (fun _ ih f s => @Option.rec (Ex×St) (fun _=>Res) none (fun p => @Prod.rec Ex St (fun _=>Res) (fun e s' => @Ex.rec (fun _=>Res) (ih f s') (fun j=>some (.exit j,s')) (some (.ret,s')) e) p) (f s)) n
theorem qqx : ∀n,klp n=lpN n
 | 0=>rfl
 |n+1=>by
  funext f s
  have ih:=qqx n
  show @Option.rec (Ex×St) (fun _=>Res) none (fun p => @Prod.rec Ex St (fun _=>Res) (fun e s' => @Ex.rec (fun _=>Res) (klp n f s') (fun j=>some (.exit j,s')) (some (.ret,s')) e) p) (f s)=_
  rw[ih,lpN];cases f s with
  |none=>rfl
  |some p=>obtain⟨e,s'⟩:=p;cases e<;>rfl
def qvD (E:Env) (rs:List RV) (s:St):Option (PV×Heap):=match runG E (qaE s.fr) s.H with
   |some H'=>match results s.fr H' rs with
    |some vs=>some (qa0 vs,H')
    |none=>none
   |none=>none
def qpR (E:Env) (rs:List RV) (r:Res):Option (PV×Heap) := @Option.rec (Ex×St) (fun _=>Option (PV×Heap)) none (fun p => @Prod.rec Ex St (fun _=>Option (PV×Heap)) (fun e s => @Ex.rec (fun _=>Option (PV×Heap)) (qvD E rs s) (fun _=>none) (qvD E rs s) e) p) r
def qmc:List PV→Nat→Fr:=fun l => @List.rec PV (fun _=>Nat→Fr) (fun _=>[]) (fun v _ ih j=>qlA (ih (Nat.succ j)) [(j,v)]) l
theorem quM : ∀(l:List PV) (j:Nat),qmc l j=Fr.ofArgs j l
 | [],j=>rfl
 |v::r,j=>by show qlA (qmc r (j+1)) [(j,v)]=_;rw[qq8,quM r,Fr.ofArgs]
def kfn (E:Env) (lp:(St→Res)→St→Res) (F:PF) (args:List PV) (H:Heap):Option (PV×Heap) := @PF.rec (fun _=>Option (PV×Heap)) (fun nargs rs body => @Bool.rec (fun _=>Option (PV×Heap)) none (qpR E rs (kev body E lp (qg9 H) (qmc args 0) H)) (Nat.beq (qg9 args) nargs)) F
theorem qx4 (E:Env) (lp:(St→Res)→St→Res) (F:PF) (args:List PV) (H:Heap):kfn E lp F args H=qa5 E lp F args H:=by
 obtain⟨nargs,rs,body⟩:=F;show @Bool.rec (fun _=>Option (PV×Heap)) none (qpR E rs (kev body E lp (qg9 H) (qmc args 0) H)) (Nat.beq (qg9 args) nargs)=_
 rw[qkw,qkw,qJm,quM];unfold qa5;by_cases h:args.length=nargs
 ·rw[if_pos h,h,Nat.beq_refl];show qpR E rs (qah E lp H.length body ⟨Fr.ofArgs 0 args,H⟩)=_
  cases qah E lp H.length body ⟨Fr.ofArgs 0 args,H⟩ with
  |none=>rfl
  |some p=>obtain⟨e,s⟩:=p;cases e<;>rfl
 ·rw[if_neg h,qk7 h]
abbrev KY:=Nat→List PV→Heap→Option (PV×Heap)
structure KP where
 it:KY→KY
 val:Nat→List DV→Option (PV×Bool)
def qoH (E:Env) (lp:(St→Res)→St→Res) (args:List PV) (H:Heap) (F:PF):Option (PV×Heap) := @Option.rec (PV×Heap) (fun _=>Option (PV×Heap)) none (fun p => @Prod.rec PV Heap (fun _=>Option (PV×Heap)) (fun v H'=>some (gcV (qg9 H) v H')) p) (kfn E lp F args H)
def kit (T:Tab) (n:Nat) (P:KP) (Y:KY) (f:Nat) (args:List PV) (H:Heap):Option (PV×Heap) := @Option.rec PF (fun _=>Option (PV×Heap)) (T.R f args H) (qoH ⟨T.G,P.it noY,P.val,Y,P.it,T.dok⟩ (klp n) args H) (T.F f)
def qpd (E:Env) (lp:(St→Res)→St→Res) (args:List DV) (F:PF):Option (PV×Bool) := @Option.rec (PV×Heap) (fun _=>Option (PV×Bool)) none (fun p => @Prod.rec PV Heap (fun _=>Option (PV×Bool)) (fun v H'=>purT H' v) p) (kfn E lp F (qcr .d args) [])
def qot (T:Tab) (n:Nat) (P:KP) (f:Nat) (args:List DV):Option (PV×Bool) := @Option.rec PF (fun _=>Option (PV×Bool)) (T.X f args) (qpd ⟨T.G,P.it noY,P.val,noY,P.it,T.dok⟩ (klp n) args) (T.F f)
def kN (T:Tab) (n:Nat):KP := @Nat.rec (fun _=>KP) ⟨fun _ _ _ _=>none,fun _ _=>none⟩ (fun n P=>⟨kit T n P,qot T n P⟩) n
theorem qwK (T:Tab) : ∀n,(kN T n).it=itN T n∧(kN T n).val=qcF T n
 | 0=>⟨by funext Y f a H;rw[itN];rfl,by funext f a;rw[qcF];rfl⟩
 |n+1=>by
  obtain⟨h1,h2⟩:=qwK T n;constructor
  ·funext Y f a H
   show kit T n (kN T n) Y f a H=_
   rw[qfJ];unfold kit;cases T.F f with
   |none=>rfl
   |some F =>
    show qoH _ (klp n) a H F=_
    unfold qoH;rw[h1,h2,qqx,qx4,qkw];show @Option.rec (PV×Heap) (fun _=>Option (PV×Heap)) none _ (qa5 (envY T n Y) (lpN n) F a H)=_
    dsimp only
    cases qa5 (envY T n Y) (lpN n) F a H with
    |none=>rfl
    |some p=>rfl
  ·funext f a
   show qot T n (kN T n) f a=_
   rw[qgR];unfold qot;cases T.F f with
   |none=>rfl
   |some F =>
    show qpd _ (klp n) a F=_
    unfold qpd;rw[h1,h2,qqx,qx4,qaD];show @Option.rec (PV×Heap) (fun _=>Option (PV×Bool)) none _ (qa5 (qco T n) (lpN n) F (a.map .d) [])=_
    dsimp only
    cases qa5 (qco T n) (lpN n) F (a.map .d) [] with
    |none=>rfl
    |some p=>rfl
theorem qo4 {T:Tab} {f:Nat} {args:List DV} {r:PV×Bool} (n:Nat) (h:(kN T n).val f args=some r):T.val f args=some r:=(qh5 T f args r).2 ⟨n,by rw[←(qwK T n).2];exact h⟩
end
end Go.Sim

