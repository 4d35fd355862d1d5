/- Part 16 of the proof: CbFast. -/
import Derived.Test.YtahfohlafjiajaaGreatDoorEB3
namespace Go.Sim
noncomputable section
def qlL (fr:Fr) (t:Nat):PV := @List.rec (Nat×PV) (fun _=>PV) .u (fun p _ ih => @Prod.rec Nat PV (fun _=>PV) (fun j v => @Bool.rec (fun _=>PV) ih v (Nat.beq j t)) p) fr
theorem qlq {j t:Nat} (h : ¬j=t):Nat.beq j t=false:=by
 cases e:Nat.beq j t with
 |false=>rfl
 |true=>exact absurd (Nat.eq_of_beq_eq_true e) h
theorem qrg : ∀fr t,qlL fr t=Fr.get fr t
 | [],t=>rfl
 | (j,v)::r,t=>by
  have ih:=qrg r t
  show @Bool.rec (fun _=>PV) (qlL r t) v (Nat.beq j t)=_
  rw[ih,Fr.get];by_cases h:j=t
  ·subst h;rw[if_pos rfl,Nat.beq_refl]
  ·rw[if_neg h,qlq h]
def qrl (fr:Fr) (t:Nat) (v:PV):Fr := @List.rec (Nat×PV) (fun _=>Fr) [(t,v)] (fun p r ih => @Prod.rec Nat PV (fun _=>Fr) (fun j x => @Bool.rec (fun _=>Fr) (@Bool.rec (fun _=>Fr) ((j,x)::ih) ((t,v)::(j,x)::r) (Nat.ble (Nat.succ j) t)) ((t,v)::r) (Nat.beq j t)) p) fr
theorem qvl : ∀fr t v,qrl fr t v=Fr.set fr t v
 | [],t,v=>rfl
 | (j,x)::r,t,v=>by
  have ih:=qvl r t v
  show @Bool.rec (fun _=>Fr) (@Bool.rec (fun _=>Fr) ((j,x)::qrl r t v) ((t,v)::(j,x)::r) (Nat.ble (Nat.succ j) t)) ((t,v)::r) (Nat.beq j t)=_
  rw[ih,Fr.set];by_cases h:j=t
  ·subst h;rw[if_pos rfl,Nat.beq_refl]
  ·rw[if_neg h,qlq h];show @Bool.rec (fun _=>Fr) _ _ (Nat.ble (Nat.succ j) t)=_
   by_cases h2:j<t
   ·rw[if_pos h2,Nat.ble_eq_true_of_le h2]
   ·rw[if_neg h2,Bool.eq_false_iff.2 (fun e=>h2 (Nat.le_of_ble_eq_true e))]
def qnu (l:List Nat) (j:Nat):Bool := @List.rec Nat (fun _=>Bool) false (fun x _ ih => @Bool.rec (fun _=>Bool) ih true (Nat.beq x j)) l
theorem qvc : ∀l j,qnu l j=l.contains j
 | [],j=>rfl
 |x::r,j=>by
  have ih:=qvc r j
  show @Bool.rec (fun _=>Bool) (qnu r j) true (Nat.beq x j)=_
  rw[ih,List.contains_cons];by_cases h:x=j
  ·subst h;rw[Nat.beq_refl];simp
  ·rw[qlq h];have:(j==x)=false:=by simpa using fun e=>h e.symm
   rw[this];rfl
def qlK (l:List Nat) (fr:Fr):Fr := @List.rec (Nat×PV) (fun _=>Fr) [] (fun p _ ih => @Prod.rec Nat PV (fun _=>Fr) (fun j v => @Bool.rec (fun _=>Fr) ((j,v)::ih) (@Bool.rec (fun _=>Fr) ((j,v)::ih) ih (Nat.ble (Nat.succ j) 100000)) (qnu l j)) p) fr
theorem quZ (l:List Nat) : ∀fr,qlK l fr=Fr.drop l fr
 | []=>rfl
 | (j,v)::r=>by
  have ih:=quZ l r
  show @Bool.rec (fun _=>Fr) ((j,v)::qlK l r) (@Bool.rec (fun _=>Fr) ((j,v)::qlK l r) (qlK l r) (Nat.blt j gh)) (qnu l j)=_
  rw[ih,Fr.drop,qvc];cases l.contains j<;>cases Nat.blt j gh<;>rfl
def qfa {α β:Type} (f:α→β) (l:List α):List β := @List.rec α (fun _=>List β) [] (fun x _ ih=>f x::ih) l
theorem qaU {α β:Type} (f:α→β) : ∀l,qfa f l=l.map f
 | []=>rfl
 |x::r=>by show f x::qfa f r=_;rw[qaU f r];rfl
def qlJ {α:Type} (l m:List α):List α := @List.rec α (fun _=>List α) m (fun x _ ih=>x::ih) l
theorem qrc {α:Type} : ∀(l m:List α),qlJ l m=l++m
 | [],m=>rfl
 |x::r,m=>by show x::qlJ r m=_;rw[qrc r m];rfl
def qin {α:Type} (l:List α):Nat := @List.rec α (fun _=>Nat) 0 (fun _ _ ih=>Nat.succ ih) l
theorem qlM {α:Type} : ∀(l:List α),qin l=l.length
 | []=>rfl
 |x::r=>by show Nat.succ (qin r)=_;rw[qlM r];rfl
def qrj {α:Type} (l:List α):Nat→Option α := @List.rec α (fun _=>Nat→Option α) (fun _=>none) (fun x _ ih n => @Nat.rec (fun _=>Option α) (some x) (fun m _=>ih m) n) l
theorem qvf {α:Type} : ∀(l:List α) (n:Nat),qrj l n=l[n]?
 | [],n=>rfl
 |x::r,0=>rfl
 |x::r,n+1=>by show qrj r n=_;rw[qvf r n];rfl
def qrk {α:Type} (x:α) (n:Nat) (l:List α):List α := @Nat.rec (fun _=>List α) l (fun _ ih=>x::ih) n
theorem qvj {α:Type} (x:α) (l:List α) : ∀n,qrk x n l=List.replicate n x++l
 | 0=>rfl
 |n+1=>by show x::qrk x n l=_;rw[qvj x l n];rfl
def qhh (H:Heap) (o:Nat):Option Obj := @Option.rec (Option Obj) (fun _=>Option Obj) none (fun x=>x) (qrj H o)
theorem qA7 (H:Heap) (o:Nat):qhh H o=Heap.obj H o:=by
 unfold qhh Heap.obj;rw[qvf];cases H[o]? <;> rfl
def krd (E:Env) (fr:Fr) (x:Rand):PV := @Rand.rec (fun _=>PV) (fun t=>qlL fr t) (fun v=>.d v) (fun n=>match E.G n with|some (v,k)=>.q v k 0|none=>.u) (fun n=>.f n []) x
theorem qvi (E:Env) (fr:Fr):krd E fr=rd E fr:=by
 funext x
 cases x with
 |t n=>exact qrg fr n
 |c v=>rfl
 |f n=>rfl
 |g n=>simp only[krd,rd];cases E.G n<;>rfl
def qa5:Heap→K→PV→Option PV:=qed
def qa6:Heap→K→PV→PV→Option Heap:=qcD
def qa3:Heap→K→PV→PV→Option PV:=iaddr
def qa2:BinOp→PV→PV→Option DV:=qa1
def qaY:Nat→PV→Option PV:=qhj
def qa4:Heap→Bool→PV→Option Nat:=qfF
def qqZ (x:Rand) (E:Env) (fr:Fr) (H:Heap) (_id:Nat):Option (PV×Heap):=some (krd E fr x,H)
def qq3 (c:Rand) (a:Rand) (b:Rand) (E:Env) (fr:Fr) (H:Heap) (_id:Nat):Option (PV×Heap):=match krd E fr c with
  | .d (.b true)=>some (krd E fr a,H)
  | .d (.b false)=>some (krd E fr b,H)
  | _=>none
def qqo (k:K) (z:DV) (_E:Env) (_fr:Fr) (H:Heap) (id:Nat):Option (PV×Heap):=some (.p id 0 0,H.put id (some (.box k (.d z))))
def qqs (k:K) (x:Rand) (E:Env) (fr:Fr) (H:Heap) (id:Nat):Option (PV×Heap):=if fits k (krd E fr x) then some (.p id 0 0,H.put id (some (.box k (krd E fr x)))) else none
def qqn (z:List DV) (parts:List (Nat×K×Rand)) (E:Env) (fr:Fr) (H:Heap) (_id:Nat):Option (PV×Heap):=match qfg (z.map .d) (parts.map fun x=>(x.1,x.2.1,krd E fr x.2.2)) with
  |some cs=>some (mkA cs,H)
  |none=>none
def qqu (k:K) (z:DV) (len:Nat) (parts:List (Nat×Rand)) (E:Env) (fr:Fr) (H:Heap) (id:Nat):Option (PV×Heap):=match qci H k (List.replicate len z) (parts.map fun x=>(x.1,krd E fr x.2)) with
  |some (es,os)=>some (.r id k 0 len true,(frz H os).put id (some (.sl k 0 es)))
  |none=>none
def qqP (k:K) (x:Rand) (E:Env) (fr:Fr) (H:Heap) (_id:Nat):Option (PV×Heap):=opt (qa5 H k (krd E fr x)) H
def qq9 (k:K) (x:Rand) (y:Rand) (E:Env) (fr:Fr) (H:Heap) (_id:Nat):Option (PV×Heap):=match qa6 H k (krd E fr x) (krd E fr y) with|some H'=>some (.u,H')|none=>none
def qqr (op:BinOp) (x:Rand) (y:Rand) (E:Env) (fr:Fr) (H:Heap) (_id:Nat):Option (PV×Heap):=qg2 (qa2 op (krd E fr x) (krd E fr y)) H
def qqE (neg:Bool) (n:List Nat) (x:Rand) (y:Rand) (E:Env) (fr:Fr) (H:Heap) (_id:Nat):Option (PV×Heap):=match eqA n (krd E fr x) (krd E fr y) with
  |some e=>some (.d (.b (if neg then !e else e)),H)
  |none=>none
def qqD (neg:Bool) (x:Rand) (y:Rand) (E:Env) (fr:Fr) (H:Heap) (_id:Nat):Option (PV×Heap):=match krd E fr x,krd E fr y with
  | .d (.b a),.d (.b b)=>some (.d (.b (if neg then !(a==b) else a==b)),H)
  | _,_=>none
def qqN (neg:Bool) (kd:Nat) (x:Rand) (E:Env) (fr:Fr) (H:Heap) (_id:Nat):Option (PV×Heap):=match qgr kd (krd E fr x) with|some b=>some (.d (.b (if neg then !b else b)),H)|none=>none
def qrb (op:UnOp) (x:Rand) (E:Env) (fr:Fr) (H:Heap) (_id:Nat):Option (PV×Heap):=qg2 (unA op (krd E fr x)) H
def qqA (k:IntKind) (x:Rand) (E:Env) (fr:Fr) (H:Heap) (_id:Nat):Option (PV×Heap):=match krd E fr x with | .d (.i _ n)=>some (.d (.i k (k.wrap n)),H)|_=>none
def qq8 (x:Rand) (lo:Option Rand) (hi:Option Rand) (E:Env) (fr:Fr) (H:Heap) (_id:Nat):Option (PV×Heap):=match krd E fr x with
  | .d (.s s)=>match bnd s.length s.length (hi.map (krd E fr)) with
   |some h=>match bnd 0 h (lo.map (krd E fr)) with
    |some l=>some (.d (.s ((s.take h).drop l)),H)
    |none=>none
   |none=>none
  | _=>none
def qq7 (k:K) (x:Rand) (lo:Option Rand) (hi:Option Rand) (mx:Option Rand) (E:Env) (fr:Fr) (H:Heap) (_id:Nat):Option (PV×Heap):=opt (slA H k (krd E fr x) (lo.map (krd E fr)) (hi.map (krd E fr)) (mx.map (krd E fr))) H
def qqG (off:Nat) (x:Rand) (E:Env) (fr:Fr) (H:Heap) (_id:Nat):Option (PV×Heap):=opt (qaY off (krd E fr x)) H
def qqH (off:Nat) (k:K) (x:Rand) (E:Env) (fr:Fr) (H:Heap) (_id:Nat):Option (PV×Heap):=opt (qi5 off k (krd E fr x)) H
def qqI (k:K) (x:Rand) (i:Rand) (E:Env) (fr:Fr) (H:Heap) (_id:Nat):Option (PV×Heap):=opt (qa3 H k (krd E fr x) (krd E fr i)) H
def qqJ (len:Nat) (k:K) (x:Rand) (i:Rand) (E:Env) (fr:Fr) (H:Heap) (_id:Nat):Option (PV×Heap):=match asI (krd E fr i) with
  |some n=>match inR n len with|some j=>opt (qaY (j*k.size) (krd E fr x)) H|none=>none
  |none=>none
def qqL (x:Rand) (i:Rand) (E:Env) (fr:Fr) (H:Heap) (_id:Nat):Option (PV×Heap):=match krd E fr x,asI (krd E fr i) with
  | .d (.s s),some n=>if 0≤n then match s[n.toNat]? with
   |some b=>some (.d (.i .u8 b.toNat),H)
   |none=>none
   else none
  | _,_=>none
def qqK (len:Nat) (k:K) (x:Rand) (i:Rand) (E:Env) (fr:Fr) (H:Heap) (_id:Nat):Option (PV×Heap):=match asI (krd E fr i) with
  |some n=>match inR n len with
   |some j=>opt (qi5 (j*k.size) k (krd E fr x)) H
   |none=>none
  |none=>none
def qqO (str:Bool) (x:Rand) (E:Env) (fr:Fr) (H:Heap) (_id:Nat):Option (PV×Heap):=match qa4 H str (krd E fr x) with|some n=>some (.d (.i .i64 n),H)|none=>none
def qqp (k:K) (bytes:Nat) (x:Rand) (y:Rand) (E:Env) (fr:Fr) (H:Heap) (id:Nat):Option (PV×Heap):=qfO H id k bytes (krd E fr x) (krd E fr y)
def qqv (f:Nat) (args:List Rand) (E:Env) (fr:Fr) (H:Heap) (_id:Nat):Option (PV×Heap):=match qaL H (qfa (krd E fr) args) with
  |some (ds,os)=>match E.val f ds with
   |some (r,_)=>some (r,if os.isEmpty||r.scal then H else frz H os)
   |none=>none
  |none=>none
def qqw (f:Nat) (args:List Rand) (E:Env) (fr:Fr) (H:Heap) (id:Nat):Option (PV×Heap):=match qaL H (qfa (krd E fr) args) with
  |some (ds,os)=>match E.val f ds with
   |some (.d (.l k es _),true)=>some (.r id k 0 es.length false,(if os.isEmpty then H else frz H os).put id (some (.sl k 0 es)))
   | _=>none
  |none=>none
def qqx (f:Nat) (args:List Rand) (E:Env) (fr:Fr) (H:Heap) (_id:Nat):Option (PV×Heap):=E.ref f (qfa (krd E fr) args) H
def qAQ (mode f:Nat) (args:List Rand):Env→Fr→Heap→Nat→Option (PV×Heap) := @Nat.rec (fun _=>Env→Fr→Heap→Nat→Option (PV×Heap)) (qqv f args) (fun m _ => @Nat.rec (fun _=>Env→Fr→Heap→Nat→Option (PV×Heap)) (qqw f args) (fun _ _=>qqx f args) m) mode
def qqy (x:Rand) (args:List Rand) (E:Env) (fr:Fr) (H:Heap) (_id:Nat):Option (PV×Heap):=match krd E fr x with
  | .f n caps=>match (if caps.isEmpty then qag (qfa (krd E fr) args) else none) with
   |some ds=>match E.val n ds with
    |some (r,_)=>some (r,H)
    |none=>none
   |none=>E.ref n (qfa (krd E fr) args++caps) H
  | .m n firsts=>match qag (firsts++qfa (krd E fr) args) with
   |some ds=>match E.val n ds with
    |some (r,_)=>some (r,H)
    |none=>none
   |none=>E.ref n (firsts++qfa (krd E fr) args) H
  | .h o=>E.yld o (qfa (krd E fr) args) H
  | _=>none
def qqF (x:Rand) (i:Nat) (E:Env) (fr:Fr) (H:Heap) (_id:Nat):Option (PV×Heap):=match krd E fr x with
  | .t vs=>opt vs[i]? H
  | _=>none
def qqT (f:Nat) (caps:List Rand) (E:Env) (fr:Fr) (H:Heap) (_id:Nat):Option (PV×Heap):=some (.f f (qfa (krd E fr) caps),H)
def qqV (f:Nat) (caps:List Rand) (E:Env) (fr:Fr) (H:Heap) (_id:Nat):Option (PV×Heap):=some (.m f (qfa (krd E fr) caps),H)
def qq4 (p:Nat) (args:List Rand) (E:Env) (fr:Fr) (H:Heap) (_id:Nat):Option (PV×Heap):=opt (qgK p (qfa (krd E fr) args)) H
def qq1 (x:Rand) (E:Env) (fr:Fr) (H:Heap) (_id:Nat):Option (PV×Heap):=match krd E fr x with
  | .p o i c=>some (.p o i c,H)
  | .q v k c=>some (.q v k c,H)
  | .f n cs=>some (.f n cs,H)
  | _=>none
def qqX (k:K) (bytes:Nat) (z:DV) (len:Rand) (cap:Rand) (E:Env) (fr:Fr) (H:Heap) (id:Nat):Option (PV×Heap):=match asI (krd E fr len),asI (krd E fr cap) with
  |some n,some c=>if 0≤n∧n≤c∧c*bytes≤2^47 then some (.r id k 0 n.toNat false,H.put id (some (.sl k 0 (List.replicate n.toNat z)))) else none
  | _,_=>none
def qqS (mx:Bool) (args:List Rand) (E:Env) (fr:Fr) (H:Heap) (_id:Nat):Option (PV×Heap):=match qfa (krd E fr) args with
  |v::r=>opt (mmA mx v r) H
  | []=>none
def qqB (k:K) (x:Rand) (y:Rand) (E:Env) (fr:Fr) (H:Heap) (_id:Nat):Option (PV×Heap):=match krd E fr x with
  | .r o k' off len _=>match qhh H o,qfy H k (krd E fr y) with
   |some (.sl k'' ro es),some ys =>
    if K.eq k k'&&K.eq k k''&&decide (off+len≤es.length)&&decide (ro≤off) then
     let n:=min ys.length len
     some (.d (.i .i64 n),H.put o (some (.sl k ro (putAt es off (ys.take n)))))
    else none
   | _,_=>none
  | _=>none
def qqz (k:K) (z:DV) (x:Rand) (E:Env) (fr:Fr) (H:Heap) (_id:Nat):Option (PV×Heap):=match krd E fr x with
  | .r o k' off len _=>match qhh H o with
   |some (.sl k'' ro es) =>
    if K.eq k k'&&K.eq k k''&&decide (off+len≤es.length)&&decide (ro≤off) then some (.t [],H.put o (some (.sl k ro (putAt es off (List.replicate len z))))) else none
   | _=>none
  | .d (.l _ [] _)=>some (.t [],H)
  | _=>none
def qqU (t:Nat) (x:Rand) (E:Env) (fr:Fr) (H:Heap) (_id:Nat):Option (PV×Heap):=match pur H (krd E fr x) with
  |some (v,os)=>some (.d (.ifc t v),frz H os)
  |none=>some (.w t (krd E fr x),H)
def qra (t:Nat) (z:DV) (ok:Bool) (x:Rand) (E:Env) (fr:Fr) (H:Heap) (_id:Nat):Option (PV×Heap):=match krd E fr x with
  | .d (.ifc u v)=>if u=t then some (if ok then .t [.d v,.d (.b true)] else .d v,H) else if ok then some (.t [.d z,.d (.b false)],H) else none
  | .w u v=>if u=t then some (if ok then .t [v,.d (.b true)] else v,H) else if ok then some (.t [.d z,.d (.b false)],H) else none
  | .d .ni=>if ok then some (.t [.d z,.d (.b false)],H) else none
  | _=>none
def qqM (tab:List (Nat×Nat×Nat)) (x:Rand) (args:List Rand) (E:Env) (fr:Fr) (H:Heap) (_id:Nat):Option (PV×Heap):=match krd E fr x with
  | .d (.ifc u v)=>match qru u tab with
   |some (0,f)=>match qaL H (qfa (krd E fr) args) with
    |some (ds,os)=>match E.val f (v::ds) with
     |some (r,_)=>some (r,if os.isEmpty||r.scal then H else frz H os)
     |none=>none
    |none=>none
   |some (_,f)=>E.ref f (.d v::qfa (krd E fr) args) H
   |none=>none
  | _=>none
def qqW  (_E:Env) (_fr:Fr) (H:Heap) (id:Nat):Option (PV×Heap):=some (.h id,H.put id (some (.mp [])))
def qqR (ky:Ky) (z:DV) (ok:Bool) (x:Rand) (i:Rand) (E:Env) (fr:Fr) (H:Heap) (_id:Nat):Option (PV×Heap):=match krd E fr i,krd E fr x with
  | .d k,.h o=>if qgn ky k then match qhh H o with
   |some (.mp es)=>match qeL k es with
    |some r=>some (if ok then .t [.d (r.getD z),.d (.b r.isSome)] else .d (r.getD z),H)
    |none=>none
   | _=>none
   else none
  | _,_=>none
def qq0 (ky:Ky) (x:Rand) (i:Rand) (v:Rand) (E:Env) (fr:Fr) (H:Heap) (_id:Nat):Option (PV×Heap):=match krd E fr i,krd E fr x,pur H (krd E fr v) with
  | .d k,.h o,some (xv,os)=>if qgn ky k then match qhh H o with
   |some (.mp es)=>match qfV k xv es with
    |some es'=>some (.u,(frz H os).put o (some (.mp es')))
    |none=>none
   | _=>none
   else none
  | _,_,_=>none
def qqQ (ky:Ky) (x:Rand) (i:Rand) (E:Env) (fr:Fr) (H:Heap) (_id:Nat):Option (PV×Heap):=match krd E fr i,krd E fr x with
  | .d k,.h o=>if qgn ky k then match qhh H o with
   |some (.mp es)=>match qpB k es with
    |some es'=>some (.u,H.put o (some (.mp es')))
    |none=>none
   | _=>none
   else none
  | _,_=>none
def qqY (x:Rand) (E:Env) (fr:Fr) (H:Heap) (_id:Nat):Option (PV×Heap):=match krd E fr x with
  | .h o=>match qhh H o with
   |some (.mp es)=>some (.d (.i .i64 es.length),H)
   | _=>none
  | _=>none
def qq5 (x:Rand) (E:Env) (fr:Fr) (H:Heap) (id:Nat):Option (PV×Heap):=match krd E fr x with
  | .d (.s l)=>some (.h id,H.put id (some (.si l 0)))
  | _=>none
def qq2 (x:Rand) (E:Env) (fr:Fr) (H:Heap) (_id:Nat):Option (PV×Heap):=match krd E fr x with
  | .h o=>match qhh H o with
   |some (.si l pos) =>
    if pos<l.length then
     let c:=Utf8.decode ⟨l.toArray⟩ pos
     some (.t [.d (.b true),.d (.i .i64 pos),.d (.i .i32 c.1)],H.put o (some (.si l (pos+c.2))))
    else some (.t [.d (.b false)],H)
   | _=>none
  | _=>none
def qq6 (x:Rand) (E:Env) (fr:Fr) (H:Heap) (_id:Nat):Option (PV×Heap):=match krd E fr x with
  | .d (.s _)=>none
  |y=>match qfy H none y with
   |some es=>match qpA es with|some l=>some (.d (.s l),H)|none=>none
   |none=>none
def qqt (x:Rand) (E:Env) (fr:Fr) (H:Heap) (_id:Nat):Option (PV×Heap):=match krd E fr x with
  | .d (.s l)=>some (.d (.l none (bytesOf l) false),H)
  | _=>none
def qqC (x:Rand) (y:Rand) (E:Env) (fr:Fr) (H:Heap) (_id:Nat):Option (PV×Heap):=match krd E fr x,krd E fr y with
  | .f n caps,.u=>some (.g (.f n caps),H)
  | _,_=>none
def qqq  (_E:Env) (_fr:Fr) (_H:Heap) (_id:Nat):Option (PV×Heap):=none
def kop (op:IOp):Env→Fr→Heap→Nat→Option (PV×Heap) := @IOp.rec (fun _=>Env→Fr→Heap→Nat→Option (PV×Heap)) qqZ qq3 qqo qqs qqn qqu qqP qq9 qqr qqE qqD qqN qrb qqA qq8 qq7 qqG qqH qqI qqJ qqL qqK qqO qqp qAQ qqy qqF qqT qqV qq4 qq1 qqX qqS qqB qqz qqU qra qqM qqW qqR qq0 qqQ qqY qq5 qq2 qq6 qqt qqC qqq op
theorem qA8 (op:IOp) (E:Env) (fr:Fr) (H:Heap) (id:Nat):kop op E fr H id=qaa E (rd E fr) H id op:=by
 rw[←qvi];have ko:qhh=Heap.obj:=by funext H o;exact qA7 H o
 cases op with
 |mov x=>show qqZ x E fr H id=_;simp only[qqZ,qaa]<;>rfl
 |pick c a b=>show qq3 c a b E fr H id=_;simp only[qq3,qaa]<;>rfl
 |alloc k z=>show qqo k z E fr H id=_;simp only[qqo,qaa]<;>rfl
 |box k x=>show qqs k x E fr H id=_;simp only[qqs,qaa]<;>rfl
 |agg z parts=>show qqn z parts E fr H id=_;simp only[qqn,qaa]<;>rfl
 |bsl k z len parts=>show qqu k z len parts E fr H id=_;simp only[qqu,qaa]<;>rfl
 |load k x=>show qqP k x E fr H id=_;simp only[qqP,qaa,qa5]<;>rfl
 |store k x y=>show qq9 k x y E fr H id=_;simp only[qq9,qaa,qa6]<;>rfl
 |bin op x y=>show qqr op x y E fr H id=_;simp only[qqr,qaa,qa2]<;>rfl
 |eqv neg n x y=>show qqE neg n x y E fr H id=_;simp only[qqE,qaa]<;>rfl
 |eqb neg x y=>show qqD neg x y E fr H id=_;simp only[qqD,qaa]<;>rfl
 |isnil neg kd x=>show qqN neg kd x E fr H id=_;simp only[qqN,qaa]<;>rfl
 |un op x=>show qrb op x E fr H id=_;simp only[qrb,qaa]<;>rfl
 |conv k x=>show qqA k x E fr H id=_;simp only[qqA,qaa]<;>rfl
 |slS x lo hi=>show qq8 x lo hi E fr H id=_;simp only[qq8,qaa]<;>rfl
 |sl k x lo hi mx=>show qq7 k x lo hi mx E fr H id=_;simp only[qq7,qaa]<;>rfl
 |faddr off x=>show qqG off x E fr H id=_;simp only[qqG,qaa,qaY]<;>rfl
 |field off k x=>show qqH off k x E fr H id=_;simp only[qqH,qaa]<;>rfl
 |iaddr k x i=>show qqI k x i E fr H id=_;simp only[qqI,qaa,qa3]<;>rfl
 |iaddrA len k x i=>show qqJ len k x i E fr H id=_;simp only[qqJ,qaa,qaY]<;>rfl
 |idxS x i=>show qqL x i E fr H id=_;simp only[qqL,qaa]<;>rfl
 |idxA len k x i=>show qqK len k x i E fr H id=_;simp only[qqK,qaa]<;>rfl
 |len str x=>show qqO str x E fr H id=_;simp only[qqO,qaa,qa4]<;>rfl
 |app k bytes x y=>show qqp k bytes x y E fr H id=_;simp only[qqp,qaa]<;>rfl
 |call m f args=>match m with
  | 0=>show qqv f args E fr H id=_;simp only[qqv,qaa,qaU]<;>rfl
  | 1=>show qqw f args E fr H id=_;simp only[qqw,qaa,qaU]<;>rfl
  |m+2=>show qqx f args E fr H id=_;simp only[qqx,qaa,qaU]<;>rfl
 |callv x args=>show qqy x args E fr H id=_;simp only[qqy,qaa,qaU]<;>rfl
 |ext x i=>show qqF x i E fr H id=_;simp only[qqF,qaa]<;>rfl
 |mkf f caps=>show qqT f caps E fr H id=_;simp only[qqT,qaa,qaU]<;>rfl
 |mkm f caps=>show qqV f caps E fr H id=_;simp only[qqV,qaa,qaU]<;>rfl
 |prim p args=>show qq4 p args E fr H id=_;simp only[qq4,qaa,qaU]<;>rfl
 |nilck x=>show qq1 x E fr H id=_;simp only[qq1,qaa]<;>rfl
 |mksl k bytes z len cap=>show qqX k bytes z len cap E fr H id=_;simp only[qqX,qaa]<;>rfl
 |minmax mx args=>show qqS mx args E fr H id=_;simp only[qqS,qaa,qaU]<;>rfl
 |copy k x y=>show qqB k x y E fr H id=_;simp only[qqB,qaa,ko]<;>rfl
 |clr k z x=>show qqz k z x E fr H id=_;simp only[qqz,qaa,ko]<;>rfl
 |mkif t x=>show qqU t x E fr H id=_;simp only[qqU,qaa]<;>rfl
 |tas t z ok x=>show qra t z ok x E fr H id=_;simp only[qra,qaa]<;>rfl
 |invk tab x args=>show qqM tab x args E fr H id=_;simp only[qqM,qaa,qaU]<;>rfl
 |mkmap  => show qqW  E fr H id=_;simp only[qqW,qaa]<;>rfl
 |mget ky z ok x i=>show qqR ky z ok x i E fr H id=_;simp only[qqR,qaa,ko]<;>rfl
 |mset ky x i v=>show qq0 ky x i v E fr H id=_;simp only[qq0,qaa,ko]<;>rfl
 |mdel ky x i=>show qqQ ky x i E fr H id=_;simp only[qqQ,qaa,ko]<;>rfl
 |mlen x=>show qqY x E fr H id=_;simp only[qqY,qaa,ko]<;>rfl
 |rngS x=>show qq5 x E fr H id=_;simp only[qq5,qaa]<;>rfl
 |nxt x=>show qq2 x E fr H id=_;simp only[qq2,qaa,ko]<;>rfl
 |sb x=>show qq6 x E fr H id=_;simp only[qq6,qaa]<;>rfl
 |bs x=>show qqt x E fr H id=_;simp only[qqt,qaa]<;>rfl
 |dfr x y=>show qqC x y E fr H id=_;simp only[qqC,qaa]<;>rfl
 |bad  => show qqq  E fr H id=_;simp only[qqq,qaa]<;>rfl
def qns (d:Option Nat) (fr:Fr) (v:PV):Fr := @Option.rec Nat (fun _=>Fr) fr (fun t=>qrl fr t v) d
abbrev KCf:=Env→Nat→Fr→Heap→Option St
def qnq (op:IOp) (id:Nat):Nat := @Bool.rec (fun _=>Nat) id (Nat.succ id) op.adds
def kgo (dst:Option Nat) (op:IOp) (ih:KCf) (E:Env) (id:Nat) (fr:Fr) (H:Heap):Option St := @Option.rec (PV×Heap) (fun _=>Option St) none (fun p => @Prod.rec PV Heap (fun _=>Option St) (fun v H'=>ih E (qnq op id) (qns dst fr v) H') p) (kop op E fr H id)
def kno (dst:Option Nat) (op:IOp) (ih:KCf) (E:Env) (id:Nat) (fr:Fr) (H:Heap):Option St:=ih E (qnq op id) (qns dst fr (.t [])) H
def qvb (v:PV) (want:Bool) (go no:Option St):Option St:=match v with
 | .d (.b b)=>if b==want then go else no
 | .t []=>no
 | _=>none
def qrm (dst:Option Nat) (op:IOp) (g:Option (Nat×Bool)) (ih:KCf) (E:Env) (id:Nat) (fr:Fr) (H:Heap):Option St :=
 @Option.rec (Nat×Bool) (fun _=>Option St) (kgo dst op ih E id fr H) (fun p => @Prod.rec Nat Bool (fun _=>Option St) (fun t want=>qvb (qlL fr t) want (kgo dst op ih E id fr H) (kno dst op ih E id fr H)) p) g
def qki (l:List IOper):KCf := @List.rec IOper (fun _=>KCf) (fun _ _ fr H=>some ⟨fr,H⟩) (fun o _ ih => @IOper.rec (fun _=>KCf) (fun dst op g=>qrm dst op g ih) o) l
def qnX (d:Option Nat) (fr:Fr) (v:PV):Fr:=match d with|some t=>fr.set t v|none=>fr
theorem qvg (E:Env) : ∀(l:List IOper) (id:Nat) (fr:Fr) (H:Heap),qki l E id fr H=qaS E l id ⟨fr,H⟩
 | [],id,fr,H=>rfl
 | ⟨dst,op,g⟩::r,id,fr,H=>by
  have ih:=qvg E r
  have hadd:qnq op id=if op.adds then id+1 else id:=by unfold qnq;cases op.adds<;>rfl
  have hd : ∀v,qns dst fr v=qnX dst fr v:=by intro v;cases dst<;>simp[qns,qvl,qnX]
  have hgo:kgo dst op (qki r) E id fr H=match qaa E (rd E fr) H id op with|some (v,H')=>qaS E r (if op.adds then id+1 else id) ⟨qnX dst fr v,H'⟩|none=>none:=by
   unfold kgo;rw[qA8];cases h:qaa E (rd E fr) H id op with
   |none=>rfl
   |some p=>obtain⟨v,H'⟩:=p;show qki r E _ _ _=_;rw[ih,hadd,hd]
  have hno:kno dst op (qki r) E id fr H=qaS E r (if op.adds then id+1 else id) ⟨qnX dst fr (.t []),H⟩:=by
   unfold kno;rw[ih,hadd,hd]
  show qrm dst op g (qki r) E id fr H=_
  unfold qrm;rw[qaS,hgo,hno];cases g with
  |none=>cases dst<;>rfl
  |some p =>
   obtain⟨t,want⟩:=p;show qvb (qlL fr t) want _ _=_
   rw[qrg];cases dst<;>rfl
def qnv (ops:List IOper) (kill:List Nat) (E:Env) (fr:Fr) (H:Heap):Option St := @Option.rec St (fun _=>Option St) none (fun s => @St.rec (fun _=>Option St) (fun fr' H'=>some ⟨qlK kill fr',H'⟩) s) (qki ops E (qin H) fr (qlJ H (qrk none (qaw ops) [])))
theorem qBa (ops:List IOper) (kill:List Nat) (E:Env) (fr:Fr) (H:Heap):qnv ops kill E fr H=qeY E ops kill ⟨fr,H⟩:=by
 unfold qnv qeY;rw[qvg,qlM,qrc,qvj,List.append_nil];cases qaS E ops H.length ⟨fr,H++List.replicate (qaw ops) none⟩ with
 |none=>rfl
 |some s=>obtain⟨fr',H'⟩:=s;show some _=_;rw[quZ]
abbrev KR:=Env→((St→Res)→St→Res)→Nat→Fr→Heap→Res
def qvm (r:Res) (f:Fr→Heap→Res):Res := @Option.rec (Ex×St) (fun _=>Res) none (fun p => @Prod.rec Ex St (fun _=>Res) (fun e s => @Ex.rec (fun _=>Res) (@St.rec (fun _=>Res) f s) (fun j=>some (.exit j,s)) (some (.ret,s)) e) p) r
def qA0:KR:=fun _ _ _ fr H=>some (.norm,⟨fr,H⟩)
def qAV (ops:List IOper) (kill:List Nat):KR:=fun E _ _ fr H => @Option.rec St (fun _=>Res) none (fun s=>some (.norm,s)) (qnv ops kill E fr H)
def qAW (ops:List IOper) (bf kill:List Nat):KR:=fun E _ _ fr H=>match qgy E ops bf kill ⟨fr,H⟩ with|some s'=>some (.norm,s')|none=>none
def qAZ (_ _:PC) (a b:KR):KR:=fun E lp base fr H=>qvm (a E lp base fr H) fun fr H=>b E lp base fr H
def qrd (c:Rand) (_ _:PC) (x y:KR):KR:=fun E lp base fr H=>match krd E fr c with
 | .d (.b true)=>x E lp base fr H
 | .d (.b false)=>y E lp base fr H
 | _=>none
def quY (id:Nat) (r:Res):Res := @Option.rec (Ex×St) (fun _=>Res) none (fun p => @Prod.rec Ex St (fun _=>Res) (fun e s => @Ex.rec (fun _=>Res) (some (.norm,s)) (fun j => @Bool.rec (fun _=>Res) (some (.exit j,s)) (some (.norm,s)) (Nat.beq j id)) (some (.ret,s)) e) p) r
def qAS (id:Nat) (_:PC) (x:KR):KR:=fun E lp base fr H=>quY id (x E lp base fr H)
def qvk (live:List Nat) (x:KR) (E:Env) (lp:(St→Res)→St→Res) (base:Nat) (s:St):Res := @St.rec (fun _=>Res) (fun fr H=>x E lp base fr H) (gc live base s)
def qAU (live:List Nat) (_:PC) (x:KR):KR:=fun E lp base fr H=>lp (qvk live x E lp base) ⟨fr,H⟩
def qAY (f:Rand) (g:Nat) (ps live:List Nat) (a x:PC) (_ _:KR):KR:=fun E lp base fr H=>qau E lp base (.rng f g ps live a x) ⟨fr,H⟩
def qAT (id:Nat):KR:=fun _ _ _ fr H=>some (.exit id,⟨fr,H⟩)
def qAX:KR:=fun _ _ _ fr H=>some (.ret,⟨fr,H⟩)
def qAR:KR:=fun _ _ _ _ _=>none
def kev (c:PC):KR := @PC.rec (fun _=>KR) qA0 qAV qAW qAZ qrd qAS qAU qAY qAT qAX qAR c
theorem qA1 (E:Env) (lp:(St→Res)→St→Res) (base:Nat) : ∀(c:PC) (fr:Fr) (H:Heap),kev c E lp base fr H=qau E lp base c ⟨fr,H⟩:=by
 intro c;induction c with
 |skip=>intro fr H;rfl
 |reg ops kill =>
  intro fr H;show @Option.rec St (fun _=>Res) none (fun s=>some (.norm,s)) (qnv ops kill E fr H)=_
  rw[qBa,qau];cases qeY E ops kill ⟨fr,H⟩<;>rfl
 |regD ops bf kill=>intro fr H;rfl
 |seq a b iha ihb =>
  intro fr H;show qvm (kev a E lp base fr H) (fun fr H=>kev b E lp base fr H)=_
  rw[iha,qau];cases qau E lp base a ⟨fr,H⟩ with
  |none=>rfl
  |some p =>
   obtain⟨e,s⟩:=p;cases e with
   |norm=>obtain⟨fr',H'⟩:=s;exact ihb fr' H'
   |exit j=>rfl
   |ret=>rfl
 |cond c x y ihx ihy =>
  intro fr H;show qrd c x y (kev x) (kev y) E lp base fr H=_
  unfold qrd;rw[qvi,qau,ihx,ihy];rfl
 |block id x ih =>
  intro fr H;show quY id (kev x E lp base fr H)=_
  rw[ih,qau];cases qau E lp base x ⟨fr,H⟩ with
  |none=>rfl
  |some p =>
   obtain⟨e,s⟩:=p;cases e with
   |norm=>rfl
   |exit j =>
    show @Bool.rec (fun _=>Res) (some (.exit j,s)) (some (.norm,s)) (Nat.beq j id)=if j==id then _ else _
    have:(j==id)=Nat.beq j id:=by by_cases h:j=id; · { subst h;rw[Nat.beq_refl];simp }; · { rw[qlq h];simpa using h }
    rw[this];cases Nat.beq j id<;>rfl
   |ret=>rfl
 |loop live x ih =>
  intro fr H;show lp (qvk live (kev x) E lp base) ⟨fr,H⟩=_
  rw[qau];congr 1
  funext s
  exact ih _ _
 |rng f g ps live a x iha ihx=>intro fr H;rfl
 |exit id=>intro fr H;rfl
 |ret=>intro fr H;rfl
 |bad=>intro fr H;rfl
def klp (n:Nat):(St→Res)→St→Res := @Nat.rec (fun _=>(St→Res)→St→Res) (fun _ _=>none) (fun _ ih f s => @Option.rec (Ex×St) (fun _=>Res) none (fun p => @Prod.rec Ex St (fun _=>Res) (fun e s' => @Ex.rec (fun _=>Res) (ih f s') (fun j=>some (.exit j,s')) (some (.ret,s')) e) p) (f s)) n
theorem qri : ∀n,klp n=lpN n
 | 0=>rfl
 |n+1=>by
  funext f s
  have ih:=qri n
  show @Option.rec (Ex×St) (fun _=>Res) none (fun p => @Prod.rec Ex St (fun _=>Res) (fun e s' => @Ex.rec (fun _=>Res) (klp n f s') (fun j=>some (.exit j,s')) (some (.ret,s')) e) p) (f s)=_
  rw[ih,lpN];cases f s with
  |none=>rfl
  |some p=>obtain⟨e,s'⟩:=p;cases e<;>rfl
def qu9 (E:Env) (rs:List RV) (s:St):Option (PV×Heap):=match runG E (qar s.fr) s.H with
   |some H'=>match results s.fr H' rs with
    |some vs=>some (qfU vs,H')
    |none=>none
   |none=>none
def qre (E:Env) (rs:List RV) (r:Res):Option (PV×Heap) := @Option.rec (Ex×St) (fun _=>Option (PV×Heap)) none (fun p => @Prod.rec Ex St (fun _=>Option (PV×Heap)) (fun e s => @Ex.rec (fun _=>Option (PV×Heap)) (qu9 E rs s) (fun _=>none) (qu9 E rs s) e) p) r
def qnr:List PV→Nat→Fr:=fun l => @List.rec PV (fun _=>Nat→Fr) (fun _=>[]) (fun v _ ih j=>qlJ (ih (Nat.succ j)) [(j,v)]) l
theorem quX : ∀(l:List PV) (j:Nat),qnr l j=Fr.ofArgs j l
 | [],j=>rfl
 |v::r,j=>by show qlJ (qnr r (j+1)) [(j,v)]=_;rw[qrc,quX r,Fr.ofArgs]
def kfn (E:Env) (lp:(St→Res)→St→Res) (F:PF) (args:List PV) (H:Heap):Option (PV×Heap) := @PF.rec (fun _=>Option (PV×Heap)) (fun nargs rs body => @Bool.rec (fun _=>Option (PV×Heap)) none (qre E rs (kev body E lp (qin H) (qnr args 0) H)) (Nat.beq (qin args) nargs)) F
theorem qva (E:Env) (lp:(St→Res)→St→Res) (F:PF) (args:List PV) (H:Heap):kfn E lp F args H=qbV E lp F args H:=by
 obtain⟨nargs,rs,body⟩:=F;show @Bool.rec (fun _=>Option (PV×Heap)) none (qre E rs (kev body E lp (qin H) (qnr args 0) H)) (Nat.beq (qin args) nargs)=_
 rw[qlM,qlM,qA1,quX];unfold qbV;by_cases h:args.length=nargs
 ·rw[if_pos h,h,Nat.beq_refl];show qre E rs (qau E lp H.length body ⟨Fr.ofArgs 0 args,H⟩)=_
  cases qau E lp H.length body ⟨Fr.ofArgs 0 args,H⟩ with
  |none=>rfl
  |some p=>obtain⟨e,s⟩:=p;cases e<;>rfl
 ·rw[if_neg h,qlq h]
abbrev KY:=Nat→List PV→Heap→Option (PV×Heap)
structure KP where
 it:KY→KY
 val:Nat→List DV→Option (PV×Bool)
def qrh (E:Env) (lp:(St→Res)→St→Res) (args:List PV) (H:Heap) (F:PF):Option (PV×Heap) := @Option.rec (PV×Heap) (fun _=>Option (PV×Heap)) none (fun p => @Prod.rec PV Heap (fun _=>Option (PV×Heap)) (fun v H'=>some (gcV (qin H) v H')) p) (kfn E lp F args H)
def kit (T:Tab) (n:Nat) (P:KP) (Y:KY) (f:Nat) (args:List PV) (H:Heap):Option (PV×Heap) := @Option.rec PF (fun _=>Option (PV×Heap)) (T.R f args H) (qrh ⟨T.G,P.it noY,P.val,Y,P.it,T.dok⟩ (klp n) args H) (T.F f)
def qro (E:Env) (lp:(St→Res)→St→Res) (args:List DV) (F:PF):Option (PV×Bool) := @Option.rec (PV×Heap) (fun _=>Option (PV×Bool)) none (fun p => @Prod.rec PV Heap (fun _=>Option (PV×Bool)) (fun v H'=>purT H' v) p) (kfn E lp F (qfa .d args) [])
def qrn (T:Tab) (n:Nat) (P:KP) (f:Nat) (args:List DV):Option (PV×Bool) := @Option.rec PF (fun _=>Option (PV×Bool)) (T.X f args) (qro ⟨T.G,P.it noY,P.val,noY,P.it,T.dok⟩ (klp n) args) (T.F f)
def kN (T:Tab) (n:Nat):KP := @Nat.rec (fun _=>KP) ⟨fun _ _ _ _=>none,fun _ _=>none⟩ (fun n P=>⟨kit T n P,qrn T n P⟩) n
theorem qqm (T:Tab) : ∀n,(kN T n).it=itN T n∧(kN T n).val=qfI T n
 | 0=>⟨by funext Y f a H;rw[itN];rfl,by funext f a;rw[qfI];rfl⟩
 |n+1=>by
  obtain⟨h1,h2⟩:=qqm T n;constructor
  ·funext Y f a H
   show kit T n (kN T n) Y f a H=_
   rw[qg0];unfold kit;cases T.F f with
   |none=>rfl
   |some F =>
    show qrh _ (klp n) a H F=_
    unfold qrh;rw[h1,h2,qri,qva,qlM];show @Option.rec (PV×Heap) (fun _=>Option (PV×Heap)) none _ (qbV (envY T n Y) (lpN n) F a H)=_
    dsimp only
    cases qbV (envY T n Y) (lpN n) F a H with
    |none=>rfl
    |some p=>rfl
  ·funext f a
   show qrn T n (kN T n) f a=_
   rw[qiz];unfold qrn;cases T.F f with
   |none=>rfl
   |some F =>
    show qro _ (klp n) a F=_
    unfold qro;rw[h1,h2,qri,qva,qaU];show @Option.rec (PV×Heap) (fun _=>Option (PV×Bool)) none _ (qbV (qeX T n) (lpN n) F (a.map .d) [])=_
    dsimp only
    cases qbV (qeX T n) (lpN n) F (a.map .d) [] with
    |none=>rfl
    |some p=>rfl
theorem qhv {T:Tab} {f:Nat} {args:List DV} {r:PV×Bool} (n:Nat) (h:(kN T n).val f args=some r):T.val f args=some r:=(qkA T f args r).2 ⟨n,by rw[←(qqm T n).2];exact h⟩
end
end Go.Sim

