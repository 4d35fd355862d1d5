/- Part 16 of the proof: CbFast. -/
import Derived.Test.YtahfohlafjiajaaGreatDoorB3
namespace Go.Sim
noncomputable section
def qlB (fr:Fr) (t:Nat):PV := @List.rec (Nat×PV) (fun _=>PV) .u (fun p _ ih => @Prod.rec Nat PV (fun _=>PV) (fun j v => @Bool.rec (fun _=>PV) ih v (Nat.beq j t)) p) fr
theorem qlh {j t:Nat} (h : ¬j=t):Nat.beq j t=false:=by
 cases e:Nat.beq j t with
 |false=>rfl
 |true=>exact absurd (Nat.eq_of_beq_eq_true e) h
theorem qq1 : ∀fr t,qlB fr t=Fr.get fr t
 | [],t=>rfl
 | (j,v)::r,t=>by
  have ih:=qq1 r t
  show @Bool.rec (fun _=>PV) (qlB r t) v (Nat.beq j t)=_
  rw[ih,Fr.get];by_cases h:j=t
  ·subst h;rw[if_pos rfl,Nat.beq_refl]
  ·rw[if_neg h,qlh h]
def qq6 (fr:Fr) (t:Nat) (v:PV):Fr := @List.rec (Nat×PV) (fun _=>Fr) [(t,v)] (fun p r ih => @Prod.rec Nat PV (fun _=>Fr) (fun j x => @Bool.rec (fun _=>Fr) (@Bool.rec (fun _=>Fr) ((j,x)::ih) ((t,v)::(j,x)::r) (Nat.ble (Nat.succ j) t)) ((t,v)::r) (Nat.beq j t)) p) fr
theorem qu3 : ∀fr t v,qq6 fr t v=Fr.set fr t v
 | [],t,v=>rfl
 | (j,x)::r,t,v=>by
  have ih:=qu3 r t v
  show @Bool.rec (fun _=>Fr) (@Bool.rec (fun _=>Fr) ((j,x)::qq6 r t v) ((t,v)::(j,x)::r) (Nat.ble (Nat.succ j) t)) ((t,v)::r) (Nat.beq j t)=_
  rw[ih,Fr.set];by_cases h:j=t
  ·subst h;rw[if_pos rfl,Nat.beq_refl]
  ·rw[if_neg h,qlh h];show @Bool.rec (fun _=>Fr) _ _ (Nat.ble (Nat.succ j) t)=_
   by_cases h2:j<t
   ·rw[if_pos h2,Nat.ble_eq_true_of_le h2]
   ·rw[if_neg h2,Bool.eq_false_iff.2 (fun e=>h2 (Nat.le_of_ble_eq_true e))]
def qni (l:List Nat) (j:Nat):Bool := @List.rec Nat (fun _=>Bool) false (fun x _ ih => @Bool.rec (fun _=>Bool) ih true (Nat.beq x j)) l
theorem quU : ∀l j,qni l j=l.contains j
 | [],j=>rfl
 |x::r,j=>by
  have ih:=quU r j
  show @Bool.rec (fun _=>Bool) (qni r j) true (Nat.beq x j)=_
  rw[ih,List.contains_cons];by_cases h:x=j
  ·subst h;rw[Nat.beq_refl];simp
  ·rw[qlh h];have:(j==x)=false:=by simpa using fun e=>h e.symm
   rw[this];rfl
def qlA (l:List Nat) (fr:Fr):Fr := @List.rec (Nat×PV) (fun _=>Fr) [] (fun p _ ih => @Prod.rec Nat PV (fun _=>Fr) (fun j v => @Bool.rec (fun _=>Fr) ((j,v)::ih) (@Bool.rec (fun _=>Fr) ((j,v)::ih) ih (Nat.ble (Nat.succ j) 100000)) (qni l j)) p) fr
theorem quH (l:List Nat) : ∀fr,qlA l fr=Fr.drop l fr
 | []=>rfl
 | (j,v)::r=>by
  have ih:=quH l r
  show @Bool.rec (fun _=>Fr) ((j,v)::qlA l r) (@Bool.rec (fun _=>Fr) ((j,v)::qlA l r) (qlA l r) (Nat.blt j gh)) (qni l j)=_
  rw[ih,Fr.drop,quU];cases l.contains j<;>cases Nat.blt j gh<;>rfl
def qfi {α β:Type} (f:α→β) (l:List α):List β := @List.rec α (fun _=>List β) [] (fun x _ ih=>f x::ih) l
theorem qaT {α β:Type} (f:α→β) : ∀l,qfi f l=l.map f
 | []=>rfl
 |x::r=>by show f x::qfi f r=_;rw[qaT f r];rfl
def qlz {α:Type} (l m:List α):List α := @List.rec α (fun _=>List α) m (fun x _ ih=>x::ih) l
theorem qqX {α:Type} : ∀(l m:List α),qlz l m=l++m
 | [],m=>rfl
 |x::r,m=>by show x::qlz r m=_;rw[qqX r m];rfl
def qie {α:Type} (l:List α):Nat := @List.rec α (fun _=>Nat) 0 (fun _ _ ih=>Nat.succ ih) l
theorem qlC {α:Type} : ∀(l:List α),qie l=l.length
 | []=>rfl
 |x::r=>by show Nat.succ (qie r)=_;rw[qlC r];rfl
def qq4 {α:Type} (l:List α):Nat→Option α := @List.rec α (fun _=>Nat→Option α) (fun _=>none) (fun x _ ih n => @Nat.rec (fun _=>Option α) (some x) (fun m _=>ih m) n) l
theorem quX {α:Type} : ∀(l:List α) (n:Nat),qq4 l n=l[n]?
 | [],n=>rfl
 |x::r,0=>rfl
 |x::r,n+1=>by show qq4 r n=_;rw[quX r n];rfl
def qq5 {α:Type} (x:α) (n:Nat) (l:List α):List α := @Nat.rec (fun _=>List α) l (fun _ ih=>x::ih) n
theorem qu1 {α:Type} (x:α) (l:List α) : ∀n,qq5 x n l=List.replicate n x++l
 | 0=>rfl
 |n+1=>by show x::qq5 x n l=_;rw[qu1 x l n];rfl
def qhc (H:Heap) (o:Nat):Option Obj := @Option.rec (Option Obj) (fun _=>Option Obj) none (fun x=>x) (qq4 H o)
theorem qAF (H:Heap) (o:Nat):qhc H o=Heap.obj H o:=by
 unfold qhc Heap.obj;rw[quX];cases H[o]? <;> rfl
def krd (E:Env) (fr:Fr) (x:Rand):PV := @Rand.rec (fun _=>PV) (fun t=>qlB fr t) (fun v=>.d v) (fun n=>match E.G n with|some (v,k)=>.q v k 0|none=>.u) (fun n=>.f n []) x
theorem qu0 (E:Env) (fr:Fr):krd E fr=rd E fr:=by
 funext x
 cases x with
 |t n=>exact qq1 fr n
 |c v=>rfl
 |f n=>rfl
 |g n=>simp only[krd,rd];cases E.G n<;>rfl
def qa5:Heap→K→PV→Option PV:=qcE
def qa6:Heap→K→PV→PV→Option Heap:=qcs
def qa3:Heap→K→PV→PV→Option PV:=iaddr
def qa2:BinOp→PV→PV→Option DV:=qa1
def qaZ:Nat→PV→Option PV:=qhe
def qa4:Heap→Bool→PV→Option Nat:=qfB
def qqK (x:Rand) (E:Env) (fr:Fr) (H:Heap) (_id:Nat):Option (PV×Heap):=some (krd E fr x,H)
def qqO (c:Rand) (a:Rand) (b:Rand) (E:Env) (fr:Fr) (H:Heap) (_id:Nat):Option (PV×Heap):=match krd E fr c with
  | .d (.b true)=>some (krd E fr a,H)
  | .d (.b false)=>some (krd E fr b,H)
  | _=>none
def qp9 (k:K) (z:DV) (_E:Env) (_fr:Fr) (H:Heap) (id:Nat):Option (PV×Heap):=some (.p id 0 0,H.put id (some (.box k (.d z))))
def qqd (k:K) (x:Rand) (E:Env) (fr:Fr) (H:Heap) (id:Nat):Option (PV×Heap):=if fits k (krd E fr x) then some (.p id 0 0,H.put id (some (.box k (krd E fr x)))) else none
def qp8 (z:List DV) (parts:List (Nat×K×Rand)) (E:Env) (fr:Fr) (H:Heap) (_id:Nat):Option (PV×Heap):=match qfs (z.map .d) (parts.map fun x=>(x.1,x.2.1,krd E fr x.2.2)) with
  |some cs=>some (mkA cs,H)
  |none=>none
def qqf (k:K) (z:DV) (len:Nat) (parts:List (Nat×Rand)) (E:Env) (fr:Fr) (H:Heap) (id:Nat):Option (PV×Heap):=match qch H k (List.replicate len z) (parts.map fun x=>(x.1,krd E fr x.2)) with
  |some (es,os)=>some (.r id k 0 len true,(frz H os).put id (some (.sl k 0 es)))
  |none=>none
def qqA (k:K) (x:Rand) (E:Env) (fr:Fr) (H:Heap) (_id:Nat):Option (PV×Heap):=opt (qa5 H k (krd E fr x)) H
def qqU (k:K) (x:Rand) (y:Rand) (E:Env) (fr:Fr) (H:Heap) (_id:Nat):Option (PV×Heap):=match qa6 H k (krd E fr x) (krd E fr y) with|some H'=>some (.u,H')|none=>none
def qqc (op:BinOp) (x:Rand) (y:Rand) (E:Env) (fr:Fr) (H:Heap) (_id:Nat):Option (PV×Heap):=qgY (qa2 op (krd E fr x) (krd E fr y)) H
def qqp (neg:Bool) (n:List Nat) (x:Rand) (y:Rand) (E:Env) (fr:Fr) (H:Heap) (_id:Nat):Option (PV×Heap):=match eqA n (krd E fr x) (krd E fr y) with
  |some e=>some (.d (.b (if neg then !e else e)),H)
  |none=>none
def qqo (neg:Bool) (x:Rand) (y:Rand) (E:Env) (fr:Fr) (H:Heap) (_id:Nat):Option (PV×Heap):=match krd E fr x,krd E fr y with
  | .d (.b a),.d (.b b)=>some (.d (.b (if neg then !(a==b) else a==b)),H)
  | _,_=>none
def qqy (neg:Bool) (kd:Nat) (x:Rand) (E:Env) (fr:Fr) (H:Heap) (_id:Nat):Option (PV×Heap):=match qgm kd (krd E fr x) with|some b=>some (.d (.b (if neg then !b else b)),H)|none=>none
def qqW (op:UnOp) (x:Rand) (E:Env) (fr:Fr) (H:Heap) (_id:Nat):Option (PV×Heap):=qgY (unA op (krd E fr x)) H
def qql (k:IntKind) (x:Rand) (E:Env) (fr:Fr) (H:Heap) (_id:Nat):Option (PV×Heap):=match krd E fr x with | .d (.i _ n)=>some (.d (.i k (k.wrap n)),H)|_=>none
def qqT (x:Rand) (lo:Option Rand) (hi:Option Rand) (E:Env) (fr:Fr) (H:Heap) (_id:Nat):Option (PV×Heap):=match krd E fr x with
  | .d (.s s)=>match bnd s.length s.length (hi.map (krd E fr)) with
   |some h=>match bnd 0 h (lo.map (krd E fr)) with
    |some l=>some (.d (.s ((s.take h).drop l)),H)
    |none=>none
   |none=>none
  | _=>none
def qqS (k:K) (x:Rand) (lo:Option Rand) (hi:Option Rand) (mx:Option Rand) (E:Env) (fr:Fr) (H:Heap) (_id:Nat):Option (PV×Heap):=opt (slA H k (krd E fr x) (lo.map (krd E fr)) (hi.map (krd E fr)) (mx.map (krd E fr))) H
def qqr (off:Nat) (x:Rand) (E:Env) (fr:Fr) (H:Heap) (_id:Nat):Option (PV×Heap):=opt (qaZ off (krd E fr x)) H
def qqs (off:Nat) (k:K) (x:Rand) (E:Env) (fr:Fr) (H:Heap) (_id:Nat):Option (PV×Heap):=opt (qiU off k (krd E fr x)) H
def qqt (k:K) (x:Rand) (i:Rand) (E:Env) (fr:Fr) (H:Heap) (_id:Nat):Option (PV×Heap):=opt (qa3 H k (krd E fr x) (krd E fr i)) H
def qqu (len:Nat) (k:K) (x:Rand) (i:Rand) (E:Env) (fr:Fr) (H:Heap) (_id:Nat):Option (PV×Heap):=match asI (krd E fr i) with
  |some n=>match inR n len with|some j=>opt (qaZ (j*k.size) (krd E fr x)) H|none=>none
  |none=>none
def qqw (x:Rand) (i:Rand) (E:Env) (fr:Fr) (H:Heap) (_id:Nat):Option (PV×Heap):=match krd E fr x,asI (krd E fr i) with
  | .d (.s s),some n=>if 0≤n then match s[n.toNat]? with
   |some b=>some (.d (.i .u8 b.toNat),H)
   |none=>none
   else none
  | _,_=>none
def qqv (len:Nat) (k:K) (x:Rand) (i:Rand) (E:Env) (fr:Fr) (H:Heap) (_id:Nat):Option (PV×Heap):=match asI (krd E fr i) with
  |some n=>match inR n len with
   |some j=>opt (qiU (j*k.size) k (krd E fr x)) H
   |none=>none
  |none=>none
def qqz (str:Bool) (x:Rand) (E:Env) (fr:Fr) (H:Heap) (_id:Nat):Option (PV×Heap):=match qa4 H str (krd E fr x) with|some n=>some (.d (.i .i64 n),H)|none=>none
def qqa (k:K) (bytes:Nat) (x:Rand) (y:Rand) (E:Env) (fr:Fr) (H:Heap) (id:Nat):Option (PV×Heap):=qfK H id k bytes (krd E fr x) (krd E fr y)
def qqg (f:Nat) (args:List Rand) (E:Env) (fr:Fr) (H:Heap) (_id:Nat):Option (PV×Heap):=match qaO H (qfi (krd E fr) args) with
  |some (ds,os)=>match E.val f ds with
   |some (r,_)=>some (r,if os.isEmpty||r.scal then H else frz H os)
   |none=>none
  |none=>none
def qqh (f:Nat) (args:List Rand) (E:Env) (fr:Fr) (H:Heap) (id:Nat):Option (PV×Heap):=match qaO H (qfi (krd E fr) args) with
  |some (ds,os)=>match E.val f ds with
   |some (.d (.l k es _),true)=>some (.r id k 0 es.length false,(if os.isEmpty then H else frz H os).put id (some (.sl k 0 es)))
   | _=>none
  |none=>none
def qqi (f:Nat) (args:List Rand) (E:Env) (fr:Fr) (H:Heap) (_id:Nat):Option (PV×Heap):=E.ref f (qfi (krd E fr) args) H
def qAo (mode f:Nat) (args:List Rand):Env→Fr→Heap→Nat→Option (PV×Heap) := @Nat.rec (fun _=>Env→Fr→Heap→Nat→Option (PV×Heap)) (qqg f args) (fun m _ => @Nat.rec (fun _=>Env→Fr→Heap→Nat→Option (PV×Heap)) (qqh f args) (fun _ _=>qqi f args) m) mode
def qqj (x:Rand) (args:List Rand) (E:Env) (fr:Fr) (H:Heap) (_id:Nat):Option (PV×Heap):=match krd E fr x with
  | .f n caps=>match (if caps.isEmpty then qag (qfi (krd E fr) args) else none) with
   |some ds=>match E.val n ds with
    |some (r,_)=>some (r,H)
    |none=>none
   |none=>E.ref n (qfi (krd E fr) args++caps) H
  | .m n firsts=>match qag (firsts++qfi (krd E fr) args) with
   |some ds=>match E.val n ds with
    |some (r,_)=>some (r,H)
    |none=>none
   |none=>E.ref n (firsts++qfi (krd E fr) args) H
  | .h o=>E.yld o (qfi (krd E fr) args) H
  | _=>none
def qqq (x:Rand) (i:Nat) (E:Env) (fr:Fr) (H:Heap) (_id:Nat):Option (PV×Heap):=match krd E fr x with
  | .t vs=>opt vs[i]? H
  | _=>none
def qqE (f:Nat) (caps:List Rand) (E:Env) (fr:Fr) (H:Heap) (_id:Nat):Option (PV×Heap):=some (.f f (qfi (krd E fr) caps),H)
def qqG (f:Nat) (caps:List Rand) (E:Env) (fr:Fr) (H:Heap) (_id:Nat):Option (PV×Heap):=some (.m f (qfi (krd E fr) caps),H)
def qqP (p:Nat) (args:List Rand) (E:Env) (fr:Fr) (H:Heap) (_id:Nat):Option (PV×Heap):=opt (qgF p (qfi (krd E fr) args)) H
def qqM (x:Rand) (E:Env) (fr:Fr) (H:Heap) (_id:Nat):Option (PV×Heap):=match krd E fr x with
  | .p o i c=>some (.p o i c,H)
  | .q v k c=>some (.q v k c,H)
  | .f n cs=>some (.f n cs,H)
  | _=>none
def qqI (k:K) (bytes:Nat) (z:DV) (len:Rand) (cap:Rand) (E:Env) (fr:Fr) (H:Heap) (id:Nat):Option (PV×Heap):=match asI (krd E fr len),asI (krd E fr cap) with
  |some n,some c=>if 0≤n∧n≤c∧c*bytes≤2^47 then some (.r id k 0 n.toNat false,H.put id (some (.sl k 0 (List.replicate n.toNat z)))) else none
  | _,_=>none
def qqD (mx:Bool) (args:List Rand) (E:Env) (fr:Fr) (H:Heap) (_id:Nat):Option (PV×Heap):=match qfi (krd E fr) args with
  |v::r=>opt (mmA mx v r) H
  | []=>none
def qqm (k:K) (x:Rand) (y:Rand) (E:Env) (fr:Fr) (H:Heap) (_id:Nat):Option (PV×Heap):=match krd E fr x with
  | .r o k' off len _=>match qhc H o,qfu H k (krd E fr y) with
   |some (.sl k'' ro es),some ys =>
    if K.eq k k'&&K.eq k k''&&decide (off+len≤es.length)&&decide (ro≤off) then
     let n:=min ys.length len
     some (.d (.i .i64 n),H.put o (some (.sl k ro (putAt es off (ys.take n)))))
    else none
   | _,_=>none
  | _=>none
def qqk (k:K) (z:DV) (x:Rand) (E:Env) (fr:Fr) (H:Heap) (_id:Nat):Option (PV×Heap):=match krd E fr x with
  | .r o k' off len _=>match qhc H o with
   |some (.sl k'' ro es) =>
    if K.eq k k'&&K.eq k k''&&decide (off+len≤es.length)&&decide (ro≤off) then some (.t [],H.put o (some (.sl k ro (putAt es off (List.replicate len z))))) else none
   | _=>none
  | .d (.l _ [] _)=>some (.t [],H)
  | _=>none
def qqF (t:Nat) (x:Rand) (E:Env) (fr:Fr) (H:Heap) (_id:Nat):Option (PV×Heap):=match pur H (krd E fr x) with
  |some (v,os)=>some (.d (.ifc t v),frz H os)
  |none=>some (.w t (krd E fr x),H)
def qqV (t:Nat) (z:DV) (ok:Bool) (x:Rand) (E:Env) (fr:Fr) (H:Heap) (_id:Nat):Option (PV×Heap):=match krd E fr x with
  | .d (.ifc u v)=>if u=t then some (if ok then .t [.d v,.d (.b true)] else .d v,H) else if ok then some (.t [.d z,.d (.b false)],H) else none
  | .w u v=>if u=t then some (if ok then .t [v,.d (.b true)] else v,H) else if ok then some (.t [.d z,.d (.b false)],H) else none
  | .d .ni=>if ok then some (.t [.d z,.d (.b false)],H) else none
  | _=>none
def qqx (tab:List (Nat×Nat×Nat)) (x:Rand) (args:List Rand) (E:Env) (fr:Fr) (H:Heap) (_id:Nat):Option (PV×Heap):=match krd E fr x with
  | .d (.ifc u v)=>match qrf u tab with
   |some (0,f)=>match qaO H (qfi (krd E fr) args) with
    |some (ds,os)=>match E.val f (v::ds) with
     |some (r,_)=>some (r,if os.isEmpty||r.scal then H else frz H os)
     |none=>none
    |none=>none
   |some (_,f)=>E.ref f (.d v::qfi (krd E fr) args) H
   |none=>none
  | _=>none
def qqH  (_E:Env) (_fr:Fr) (H:Heap) (id:Nat):Option (PV×Heap):=some (.h id,H.put id (some (.mp [])))
def qqC (ky:Ky) (z:DV) (ok:Bool) (x:Rand) (i:Rand) (E:Env) (fr:Fr) (H:Heap) (_id:Nat):Option (PV×Heap):=match krd E fr i,krd E fr x with
  | .d k,.h o=>if qgi ky k then match qhc H o with
   |some (.mp es)=>match qdL k es with
    |some r=>some (if ok then .t [.d (r.getD z),.d (.b r.isSome)] else .d (r.getD z),H)
    |none=>none
   | _=>none
   else none
  | _,_=>none
def qqL (ky:Ky) (x:Rand) (i:Rand) (v:Rand) (E:Env) (fr:Fr) (H:Heap) (_id:Nat):Option (PV×Heap):=match krd E fr i,krd E fr x,pur H (krd E fr v) with
  | .d k,.h o,some (xv,os)=>if qgi ky k then match qhc H o with
   |some (.mp es)=>match qfS k xv es with
    |some es'=>some (.u,(frz H os).put o (some (.mp es')))
    |none=>none
   | _=>none
   else none
  | _,_,_=>none
def qqB (ky:Ky) (x:Rand) (i:Rand) (E:Env) (fr:Fr) (H:Heap) (_id:Nat):Option (PV×Heap):=match krd E fr i,krd E fr x with
  | .d k,.h o=>if qgi ky k then match qhc H o with
   |some (.mp es)=>match qpm k es with
    |some es'=>some (.u,H.put o (some (.mp es')))
    |none=>none
   | _=>none
   else none
  | _,_=>none
def qqJ (x:Rand) (E:Env) (fr:Fr) (H:Heap) (_id:Nat):Option (PV×Heap):=match krd E fr x with
  | .h o=>match qhc H o with
   |some (.mp es)=>some (.d (.i .i64 es.length),H)
   | _=>none
  | _=>none
def qqQ (x:Rand) (E:Env) (fr:Fr) (H:Heap) (id:Nat):Option (PV×Heap):=match krd E fr x with
  | .d (.s l)=>some (.h id,H.put id (some (.si l 0)))
  | _=>none
def qqN (x:Rand) (E:Env) (fr:Fr) (H:Heap) (_id:Nat):Option (PV×Heap):=match krd E fr x with
  | .h o=>match qhc H o with
   |some (.si l pos) =>
    if pos<l.length then
     let c:=Utf8.decode ⟨l.toArray⟩ pos
     some (.t [.d (.b true),.d (.i .i64 pos),.d (.i .i32 c.1)],H.put o (some (.si l (pos+c.2))))
    else some (.t [.d (.b false)],H)
   | _=>none
  | _=>none
def qqR (x:Rand) (E:Env) (fr:Fr) (H:Heap) (_id:Nat):Option (PV×Heap):=match krd E fr x with
  | .d (.s _)=>none
  |y=>match qfu H none y with
   |some es=>match qpl es with|some l=>some (.d (.s l),H)|none=>none
   |none=>none
def qqe (x:Rand) (E:Env) (fr:Fr) (H:Heap) (_id:Nat):Option (PV×Heap):=match krd E fr x with
  | .d (.s l)=>some (.d (.l none (bytesOf l) false),H)
  | _=>none
def qqn (x:Rand) (y:Rand) (E:Env) (fr:Fr) (H:Heap) (_id:Nat):Option (PV×Heap):=match krd E fr x,krd E fr y with
  | .f n caps,.u=>some (.g (.f n caps),H)
  | _,_=>none
def qqb  (_E:Env) (_fr:Fr) (_H:Heap) (_id:Nat):Option (PV×Heap):=none
def kop (op:IOp):Env→Fr→Heap→Nat→Option (PV×Heap) := @IOp.rec (fun _=>Env→Fr→Heap→Nat→Option (PV×Heap)) qqK qqO qp9 qqd qp8 qqf qqA qqU qqc qqp qqo qqy qqW qql qqT qqS qqr qqs qqt qqu qqw qqv qqz qqa qAo qqj qqq qqE qqG qqP qqM qqI qqD qqm qqk qqF qqV qqx qqH qqC qqL qqB qqJ qqQ qqN qqR qqe qqn qqb op
theorem qAG (op:IOp) (E:Env) (fr:Fr) (H:Heap) (id:Nat):kop op E fr H id=qaa E (rd E fr) H id op:=by
 rw[←qu0];have ko:qhc=Heap.obj:=by funext H o;exact qAF H o
 cases op with
 |mov x=>show qqK x E fr H id=_;simp only[qqK,qaa]<;>rfl
 |pick c a b=>show qqO c a b E fr H id=_;simp only[qqO,qaa]<;>rfl
 |alloc k z=>show qp9 k z E fr H id=_;simp only[qp9,qaa]<;>rfl
 |box k x=>show qqd k x E fr H id=_;simp only[qqd,qaa]<;>rfl
 |agg z parts=>show qp8 z parts E fr H id=_;simp only[qp8,qaa]<;>rfl
 |bsl k z len parts=>show qqf k z len parts E fr H id=_;simp only[qqf,qaa]<;>rfl
 |load k x=>show qqA k x E fr H id=_;simp only[qqA,qaa,qa5]<;>rfl
 |store k x y=>show qqU k x y E fr H id=_;simp only[qqU,qaa,qa6]<;>rfl
 |bin op x y=>show qqc op x y E fr H id=_;simp only[qqc,qaa,qa2]<;>rfl
 |eqv neg n x y=>show qqp neg n x y E fr H id=_;simp only[qqp,qaa]<;>rfl
 |eqb neg x y=>show qqo neg x y E fr H id=_;simp only[qqo,qaa]<;>rfl
 |isnil neg kd x=>show qqy neg kd x E fr H id=_;simp only[qqy,qaa]<;>rfl
 |un op x=>show qqW op x E fr H id=_;simp only[qqW,qaa]<;>rfl
 |conv k x=>show qql k x E fr H id=_;simp only[qql,qaa]<;>rfl
 |slS x lo hi=>show qqT x lo hi E fr H id=_;simp only[qqT,qaa]<;>rfl
 |sl k x lo hi mx=>show qqS k x lo hi mx E fr H id=_;simp only[qqS,qaa]<;>rfl
 |faddr off x=>show qqr off x E fr H id=_;simp only[qqr,qaa,qaZ]<;>rfl
 |field off k x=>show qqs off k x E fr H id=_;simp only[qqs,qaa]<;>rfl
 |iaddr k x i=>show qqt k x i E fr H id=_;simp only[qqt,qaa,qa3]<;>rfl
 |iaddrA len k x i=>show qqu len k x i E fr H id=_;simp only[qqu,qaa,qaZ]<;>rfl
 |idxS x i=>show qqw x i E fr H id=_;simp only[qqw,qaa]<;>rfl
 |idxA len k x i=>show qqv len k x i E fr H id=_;simp only[qqv,qaa]<;>rfl
 |len str x=>show qqz str x E fr H id=_;simp only[qqz,qaa,qa4]<;>rfl
 |app k bytes x y=>show qqa k bytes x y E fr H id=_;simp only[qqa,qaa]<;>rfl
 |call m f args=>match m with
  | 0=>show qqg f args E fr H id=_;simp only[qqg,qaa,qaT]<;>rfl
  | 1=>show qqh f args E fr H id=_;simp only[qqh,qaa,qaT]<;>rfl
  |m+2=>show qqi f args E fr H id=_;simp only[qqi,qaa,qaT]<;>rfl
 |callv x args=>show qqj x args E fr H id=_;simp only[qqj,qaa,qaT]<;>rfl
 |ext x i=>show qqq x i E fr H id=_;simp only[qqq,qaa]<;>rfl
 |mkf f caps=>show qqE f caps E fr H id=_;simp only[qqE,qaa,qaT]<;>rfl
 |mkm f caps=>show qqG f caps E fr H id=_;simp only[qqG,qaa,qaT]<;>rfl
 |prim p args=>show qqP p args E fr H id=_;simp only[qqP,qaa,qaT]<;>rfl
 |nilck x=>show qqM x E fr H id=_;simp only[qqM,qaa]<;>rfl
 |mksl k bytes z len cap=>show qqI k bytes z len cap E fr H id=_;simp only[qqI,qaa]<;>rfl
 |minmax mx args=>show qqD mx args E fr H id=_;simp only[qqD,qaa,qaT]<;>rfl
 |copy k x y=>show qqm k x y E fr H id=_;simp only[qqm,qaa,ko]<;>rfl
 |clr k z x=>show qqk k z x E fr H id=_;simp only[qqk,qaa,ko]<;>rfl
 |mkif t x=>show qqF t x E fr H id=_;simp only[qqF,qaa]<;>rfl
 |tas t z ok x=>show qqV t z ok x E fr H id=_;simp only[qqV,qaa]<;>rfl
 |invk tab x args=>show qqx tab x args E fr H id=_;simp only[qqx,qaa,qaT]<;>rfl
 |mkmap  => show qqH  E fr H id=_;simp only[qqH,qaa]<;>rfl
 |mget ky z ok x i=>show qqC ky z ok x i E fr H id=_;simp only[qqC,qaa,ko]<;>rfl
 |mset ky x i v=>show qqL ky x i v E fr H id=_;simp only[qqL,qaa,ko]<;>rfl
 |mdel ky x i=>show qqB ky x i E fr H id=_;simp only[qqB,qaa,ko]<;>rfl
 |mlen x=>show qqJ x E fr H id=_;simp only[qqJ,qaa,ko]<;>rfl
 |rngS x=>show qqQ x E fr H id=_;simp only[qqQ,qaa]<;>rfl
 |nxt x=>show qqN x E fr H id=_;simp only[qqN,qaa,ko]<;>rfl
 |sb x=>show qqR x E fr H id=_;simp only[qqR,qaa]<;>rfl
 |bs x=>show qqe x E fr H id=_;simp only[qqe,qaa]<;>rfl
 |dfr x y=>show qqn x y E fr H id=_;simp only[qqn,qaa]<;>rfl
 |bad  => show qqb  E fr H id=_;simp only[qqb,qaa]<;>rfl
def qng (d:Option Nat) (fr:Fr) (v:PV):Fr := @Option.rec Nat (fun _=>Fr) fr (fun t=>qq6 fr t v) d
abbrev KCf:=Env→Nat→Fr→Heap→Option St
def qne (op:IOp) (id:Nat):Nat := @Bool.rec (fun _=>Nat) id (Nat.succ id) op.adds
def kgo (dst:Option Nat) (op:IOp) (ih:KCf) (E:Env) (id:Nat) (fr:Fr) (H:Heap):Option St := @Option.rec (PV×Heap) (fun _=>Option St) none (fun p => @Prod.rec PV Heap (fun _=>Option St) (fun v H'=>ih E (qne op id) (qng dst fr v) H') p) (kop op E fr H id)
def kno (dst:Option Nat) (op:IOp) (ih:KCf) (E:Env) (id:Nat) (fr:Fr) (H:Heap):Option St:=ih E (qne op id) (qng dst fr (.t [])) H
def quT (v:PV) (want:Bool) (go no:Option St):Option St:=match v with
 | .d (.b b)=>if b==want then go else no
 | .t []=>no
 | _=>none
def qq7 (dst:Option Nat) (op:IOp) (g:Option (Nat×Bool)) (ih:KCf) (E:Env) (id:Nat) (fr:Fr) (H:Heap):Option St :=
 @Option.rec (Nat×Bool) (fun _=>Option St) (kgo dst op ih E id fr H) (fun p => @Prod.rec Nat Bool (fun _=>Option St) (fun t want=>quT (qlB fr t) want (kgo dst op ih E id fr H) (kno dst op ih E id fr H)) p) g
def qkb (l:List IOper):KCf := @List.rec IOper (fun _=>KCf) (fun _ _ fr H=>some ⟨fr,H⟩) (fun o _ ih => @IOper.rec (fun _=>KCf) (fun dst op g=>qq7 dst op g ih) o) l
def qnL (d:Option Nat) (fr:Fr) (v:PV):Fr:=match d with|some t=>fr.set t v|none=>fr
theorem quY (E:Env) : ∀(l:List IOper) (id:Nat) (fr:Fr) (H:Heap),qkb l E id fr H=qaS E l id ⟨fr,H⟩
 | [],id,fr,H=>rfl
 | ⟨dst,op,g⟩::r,id,fr,H=>by
  have ih:=quY E r
  have hadd:qne op id=if op.adds then id+1 else id:=by unfold qne;cases op.adds<;>rfl
  have hd : ∀v,qng dst fr v=qnL dst fr v:=by intro v;cases dst<;>simp[qng,qu3,qnL]
  have hgo:kgo dst op (qkb r) E id fr H=match qaa E (rd E fr) H id op with|some (v,H')=>qaS E r (if op.adds then id+1 else id) ⟨qnL dst fr v,H'⟩|none=>none:=by
   unfold kgo;rw[qAG];cases h:qaa E (rd E fr) H id op with
   |none=>rfl
   |some p=>obtain⟨v,H'⟩:=p;show qkb r E _ _ _=_;rw[ih,hadd,hd]
  have hno:kno dst op (qkb r) E id fr H=qaS E r (if op.adds then id+1 else id) ⟨qnL dst fr (.t []),H⟩:=by
   unfold kno;rw[ih,hadd,hd]
  show qq7 dst op g (qkb r) E id fr H=_
  unfold qq7;rw[qaS,hgo,hno];cases g with
  |none=>cases dst<;>rfl
  |some p =>
   obtain⟨t,want⟩:=p;show quT (qlB fr t) want _ _=_
   rw[qq1];cases dst<;>rfl
def qnj (ops:List IOper) (kill:List Nat) (E:Env) (fr:Fr) (H:Heap):Option St := @Option.rec St (fun _=>Option St) none (fun s => @St.rec (fun _=>Option St) (fun fr' H'=>some ⟨qlA kill fr',H'⟩) s) (qkb ops E (qie H) fr (qlz H (qq5 none (qaw ops) [])))
theorem qAI (ops:List IOper) (kill:List Nat) (E:Env) (fr:Fr) (H:Heap):qnj ops kill E fr H=qeH E ops kill ⟨fr,H⟩:=by
 unfold qnj qeH;rw[quY,qlC,qqX,qu1,List.append_nil];cases qaS E ops H.length ⟨fr,H++List.replicate (qaw ops) none⟩ with
 |none=>rfl
 |some s=>obtain⟨fr',H'⟩:=s;show some _=_;rw[quH]
abbrev KR:=Env→((St→Res)→St→Res)→Nat→Fr→Heap→Res
def qu4 (r:Res) (f:Fr→Heap→Res):Res := @Option.rec (Ex×St) (fun _=>Res) none (fun p => @Prod.rec Ex St (fun _=>Res) (fun e s => @Ex.rec (fun _=>Res) (@St.rec (fun _=>Res) f s) (fun j=>some (.exit j,s)) (some (.ret,s)) e) p) r
def qAy:KR:=fun _ _ _ fr H=>some (.norm,⟨fr,H⟩)
def qAt (ops:List IOper) (kill:List Nat):KR:=fun E _ _ fr H => @Option.rec St (fun _=>Res) none (fun s=>some (.norm,s)) (qnj ops kill E fr H)
def qAu (ops:List IOper) (bf kill:List Nat):KR:=fun E _ _ fr H=>match qgu E ops bf kill ⟨fr,H⟩ with|some s'=>some (.norm,s')|none=>none
def qAx (_ _:PC) (a b:KR):KR:=fun E lp base fr H=>qu4 (a E lp base fr H) fun fr H=>b E lp base fr H
def qqY (c:Rand) (_ _:PC) (x y:KR):KR:=fun E lp base fr H=>match krd E fr c with
 | .d (.b true)=>x E lp base fr H
 | .d (.b false)=>y E lp base fr H
 | _=>none
def quG (id:Nat) (r:Res):Res := @Option.rec (Ex×St) (fun _=>Res) none (fun p => @Prod.rec Ex St (fun _=>Res) (fun e s => @Ex.rec (fun _=>Res) (some (.norm,s)) (fun j => @Bool.rec (fun _=>Res) (some (.exit j,s)) (some (.norm,s)) (Nat.beq j id)) (some (.ret,s)) e) p) r
def qAq (id:Nat) (_:PC) (x:KR):KR:=fun E lp base fr H=>quG id (x E lp base fr H)
def qu2 (live:List Nat) (x:KR) (E:Env) (lp:(St→Res)→St→Res) (base:Nat) (s:St):Res := @St.rec (fun _=>Res) (fun fr H=>x E lp base fr H) (gc live base s)
def qAs (live:List Nat) (_:PC) (x:KR):KR:=fun E lp base fr H=>lp (qu2 live x E lp base) ⟨fr,H⟩
def qAw (f:Rand) (g:Nat) (ps live:List Nat) (a x:PC) (_ _:KR):KR:=fun E lp base fr H=>qau E lp base (.rng f g ps live a x) ⟨fr,H⟩
def qAr (id:Nat):KR:=fun _ _ _ fr H=>some (.exit id,⟨fr,H⟩)
def qAv:KR:=fun _ _ _ fr H=>some (.ret,⟨fr,H⟩)
def qAp:KR:=fun _ _ _ _ _=>none
def kev (c:PC):KR := @PC.rec (fun _=>KR) qAy qAt qAu qAx qqY qAq qAs qAw qAr qAv qAp c
theorem qAz (E:Env) (lp:(St→Res)→St→Res) (base:Nat) : ∀(c:PC) (fr:Fr) (H:Heap),kev c E lp base fr H=qau E lp base c ⟨fr,H⟩:=by
 intro c;induction c with
 |skip=>intro fr H;rfl
 |reg ops kill =>
  intro fr H;show @Option.rec St (fun _=>Res) none (fun s=>some (.norm,s)) (qnj ops kill E fr H)=_
  rw[qAI,qau];cases qeH E ops kill ⟨fr,H⟩<;>rfl
 |regD ops bf kill=>intro fr H;rfl
 |seq a b iha ihb =>
  intro fr H;show qu4 (kev a E lp base fr H) (fun fr H=>kev b E lp base fr H)=_
  rw[iha,qau];cases qau E lp base a ⟨fr,H⟩ with
  |none=>rfl
  |some p =>
   obtain⟨e,s⟩:=p;cases e with
   |norm=>obtain⟨fr',H'⟩:=s;exact ihb fr' H'
   |exit j=>rfl
   |ret=>rfl
 |cond c x y ihx ihy =>
  intro fr H;show qqY c x y (kev x) (kev y) E lp base fr H=_
  unfold qqY;rw[qu0,qau,ihx,ihy];rfl
 |block id x ih =>
  intro fr H;show quG id (kev x E lp base fr H)=_
  rw[ih,qau];cases qau E lp base x ⟨fr,H⟩ with
  |none=>rfl
  |some p =>
   obtain⟨e,s⟩:=p;cases e with
   |norm=>rfl
   |exit j =>
    show @Bool.rec (fun _=>Res) (some (.exit j,s)) (some (.norm,s)) (Nat.beq j id)=if j==id then _ else _
    have:(j==id)=Nat.beq j id:=by by_cases h:j=id; · { subst h;rw[Nat.beq_refl];simp }; · { rw[qlh h];simpa using h }
    rw[this];cases Nat.beq j id<;>rfl
   |ret=>rfl
 |loop live x ih =>
  intro fr H;show lp (qu2 live (kev x) E lp base) ⟨fr,H⟩=_
  rw[qau];congr 1
  funext s
  exact ih _ _
 |rng f g ps live a x iha ihx=>intro fr H;rfl
 |exit id=>intro fr H;rfl
 |ret=>intro fr H;rfl
 |bad=>intro fr H;rfl
def klp (n:Nat):(St→Res)→St→Res := @Nat.rec (fun _=>(St→Res)→St→Res) (fun _ _=>none) (fun _ ih f s => @Option.rec (Ex×St) (fun _=>Res) none (fun p => @Prod.rec Ex St (fun _=>Res) (fun e s' => @Ex.rec (fun _=>Res) (ih f s') (fun j=>some (.exit j,s')) (some (.ret,s')) e) p) (f s)) n
theorem qq3 : ∀n,klp n=lpN n
 | 0=>rfl
 |n+1=>by
  funext f s
  have ih:=qq3 n
  show @Option.rec (Ex×St) (fun _=>Res) none (fun p => @Prod.rec Ex St (fun _=>Res) (fun e s' => @Ex.rec (fun _=>Res) (klp n f s') (fun j=>some (.exit j,s')) (some (.ret,s')) e) p) (f s)=_
  rw[ih,lpN];cases f s with
  |none=>rfl
  |some p=>obtain⟨e,s'⟩:=p;cases e<;>rfl
def quR (E:Env) (rs:List RV) (s:St):Option (PV×Heap):=match runG E (qar s.fr) s.H with
   |some H'=>match results s.fr H' rs with
    |some vs=>some (qfR vs,H')
    |none=>none
   |none=>none
def qqZ (E:Env) (rs:List RV) (r:Res):Option (PV×Heap) := @Option.rec (Ex×St) (fun _=>Option (PV×Heap)) none (fun p => @Prod.rec Ex St (fun _=>Option (PV×Heap)) (fun e s => @Ex.rec (fun _=>Option (PV×Heap)) (quR E rs s) (fun _=>none) (quR E rs s) e) p) r
def qnf:List PV→Nat→Fr:=fun l => @List.rec PV (fun _=>Nat→Fr) (fun _=>[]) (fun v _ ih j=>qlz (ih (Nat.succ j)) [(j,v)]) l
theorem quF : ∀(l:List PV) (j:Nat),qnf l j=Fr.ofArgs j l
 | [],j=>rfl
 |v::r,j=>by show qlz (qnf r (j+1)) [(j,v)]=_;rw[qqX,quF r,Fr.ofArgs]
def kfn (E:Env) (lp:(St→Res)→St→Res) (F:PF) (args:List PV) (H:Heap):Option (PV×Heap) := @PF.rec (fun _=>Option (PV×Heap)) (fun nargs rs body => @Bool.rec (fun _=>Option (PV×Heap)) none (qqZ E rs (kev body E lp (qie H) (qnf args 0) H)) (Nat.beq (qie args) nargs)) F
theorem quS (E:Env) (lp:(St→Res)→St→Res) (F:PF) (args:List PV) (H:Heap):kfn E lp F args H=qbT E lp F args H:=by
 obtain⟨nargs,rs,body⟩:=F;show @Bool.rec (fun _=>Option (PV×Heap)) none (qqZ E rs (kev body E lp (qie H) (qnf args 0) H)) (Nat.beq (qie args) nargs)=_
 rw[qlC,qlC,qAz,quF];unfold qbT;by_cases h:args.length=nargs
 ·rw[if_pos h,h,Nat.beq_refl];show qqZ E rs (qau E lp H.length body ⟨Fr.ofArgs 0 args,H⟩)=_
  cases qau E lp H.length body ⟨Fr.ofArgs 0 args,H⟩ with
  |none=>rfl
  |some p=>obtain⟨e,s⟩:=p;cases e<;>rfl
 ·rw[if_neg h,qlh h]
abbrev KY:=Nat→List PV→Heap→Option (PV×Heap)
structure KP where
 it:KY→KY
 val:Nat→List DV→Option (PV×Bool)
def qq2 (E:Env) (lp:(St→Res)→St→Res) (args:List PV) (H:Heap) (F:PF):Option (PV×Heap) := @Option.rec (PV×Heap) (fun _=>Option (PV×Heap)) none (fun p => @Prod.rec PV Heap (fun _=>Option (PV×Heap)) (fun v H'=>some (gcV (qie H) v H')) p) (kfn E lp F args H)
def kit (T:Tab) (n:Nat) (P:KP) (Y:KY) (f:Nat) (args:List PV) (H:Heap):Option (PV×Heap) := @Option.rec PF (fun _=>Option (PV×Heap)) (T.R f args H) (qq2 ⟨T.G,P.it noY,P.val,Y,P.it,T.dok⟩ (klp n) args H) (T.F f)
def qq9 (E:Env) (lp:(St→Res)→St→Res) (args:List DV) (F:PF):Option (PV×Bool) := @Option.rec (PV×Heap) (fun _=>Option (PV×Bool)) none (fun p => @Prod.rec PV Heap (fun _=>Option (PV×Bool)) (fun v H'=>purT H' v) p) (kfn E lp F (qfi .d args) [])
def qq8 (T:Tab) (n:Nat) (P:KP) (f:Nat) (args:List DV):Option (PV×Bool) := @Option.rec PF (fun _=>Option (PV×Bool)) (T.X f args) (qq9 ⟨T.G,P.it noY,P.val,noY,P.it,T.dok⟩ (klp n) args) (T.F f)
def kN (T:Tab) (n:Nat):KP := @Nat.rec (fun _=>KP) ⟨fun _ _ _ _=>none,fun _ _=>none⟩ (fun n P=>⟨kit T n P,qq8 T n P⟩) n
theorem qp7 (T:Tab) : ∀n,(kN T n).it=itN T n∧(kN T n).val=qfE T n
 | 0=>⟨by funext Y f a H;rw[itN];rfl,by funext f a;rw[qfE];rfl⟩
 |n+1=>by
  obtain⟨h1,h2⟩:=qp7 T n;constructor
  ·funext Y f a H
   show kit T n (kN T n) Y f a H=_
   rw[qgW];unfold kit;cases T.F f with
   |none=>rfl
   |some F =>
    show qq2 _ (klp n) a H F=_
    unfold qq2;rw[h1,h2,qq3,quS,qlC];show @Option.rec (PV×Heap) (fun _=>Option (PV×Heap)) none _ (qbT (envY T n Y) (lpN n) F a H)=_
    dsimp only
    cases qbT (envY T n Y) (lpN n) F a H with
    |none=>rfl
    |some p=>rfl
  ·funext f a
   show qq8 T n (kN T n) f a=_
   rw[qiq];unfold qq8;cases T.F f with
   |none=>rfl
   |some F =>
    show qq9 _ (klp n) a F=_
    unfold qq9;rw[h1,h2,qq3,quS,qaT];show @Option.rec (PV×Heap) (fun _=>Option (PV×Bool)) none _ (qbT (qeG T n) (lpN n) F (a.map .d) [])=_
    dsimp only
    cases qbT (qeG T n) (lpN n) F (a.map .d) [] with
    |none=>rfl
    |some p=>rfl
theorem qho {T:Tab} {f:Nat} {args:List DV} {r:PV×Bool} (n:Nat) (h:(kN T n).val f args=some r):T.val f args=some r:=(qks T f args r).2 ⟨n,by rw[←(qp7 T n).2];exact h⟩
end
end Go.Sim

