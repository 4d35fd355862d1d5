/- Part 16 of the proof. -/
import Derived.Test.YtmaaepdecdhmnaaGreatDoorB3
namespace Go.Sim
set_option maxRecDepth 100000
set_option maxHeartbeats 8000000
noncomputable section
def qmz(fr:Fr)(t:Nat):PV := @List.rec (Nat×PV) (fun _=>PV) .u (fun p _ ih => @Prod.rec Nat PV (fun _=>PV) (fun j v => @Bool.rec (fun _=>PV) ih v (Nat.beq j t)) p) fr
theorem qma{j t:Nat}(h:¬j=t):Nat.beq j t=false:=by
 cases e:Nat.beq j t with
 |false=>rfl
 |true=>exact absurd (zzy e) h
theorem qr8:∀fr t,qmz fr t=Fr.get fr t
 | [],t=>rfl
 | (j,v)::r,t=>by
  have ih:=qr8 r t
  show @Bool.rec (fun _=>PV) (qmz r t) v (Nat.beq j t)=_
  rw[ih,Fr.get];by_cases h:j=t
  ·subst h;rw[if_pos rfl,Nat.beq_refl]
  ·rw[if_neg h,qma h]
def qsd(fr:Fr)(t:Nat)(v:PV):Fr := @List.rec (Nat×PV) (fun _=>Fr) [(t,v)] (fun p r ih => @Prod.rec Nat PV (fun _=>Fr) (fun j x => @Bool.rec (fun _=>Fr) (@Bool.rec (fun _=>Fr) ((j,x)::ih) ((t,v)::(j,x)::r) (Nat.ble (Nat.succ j) t)) ((t,v)::r) (Nat.beq j t)) p) fr
theorem qv9:∀fr t v,qsd fr t v=Fr.set fr t v
 | [],t,v=>rfl
 | (j,x)::r,t,v=>by
  have ih:=qv9 r t v
  show @Bool.rec (fun _=>Fr) (@Bool.rec (fun _=>Fr) ((j,x)::qsd r t v) ((t,v)::(j,x)::r) (Nat.ble (Nat.succ j) t)) ((t,v)::r) (Nat.beq j t)=_
  rw[ih,Fr.set];by_cases h:j=t
  ·subst h;rw[if_pos rfl,Nat.beq_refl]
  ·rw[if_neg h,qma h];show @Bool.rec (fun _=>Fr) _ _ (Nat.ble (Nat.succ j) t)=_
   by_cases h2:j<t
   ·rw[if_pos h2,Nat.ble_eq_true_of_le h2]
   ·rw[if_neg h2,Bool.eq_false_iff.2 (fun e=>h2 (Nat.le_of_ble_eq_true e))]
def qok(l:List Nat)(j:Nat):Bool := @List.rec Nat (fun _=>Bool) false (fun x _ ih => @Bool.rec (fun _=>Bool) ih true (Nat.beq x j)) l
theorem qv0:∀l j,qok l j=l.contains j
 | [],j=>rfl
 |x::r,j=>by
  have ih:=qv0 r j
  show @Bool.rec (fun _=>Bool) (qok r j) true (Nat.beq x j)=_
  rw[ih,List.contains_cons];by_cases h:x=j
  ·subst h;rw[Nat.beq_refl];simp
  ·rw[qma h];have:(j==x)=false:=by simpa using fun e=>h e.symm
   rw[this];rfl
def qmy(l:List Nat)(fr:Fr):Fr := @List.rec (Nat×PV) (fun _=>Fr) [] (fun p _ ih => @Prod.rec Nat PV (fun _=>Fr) (fun j v => @Bool.rec (fun _=>Fr) ((j,v)::ih) (@Bool.rec (fun _=>Fr) ((j,v)::ih) ih (Nat.ble (Nat.succ j) 100000)) (qok l j)) p) fr
theorem qvN(l:List Nat):∀fr,qmy l fr=Fr.drop l fr
 | []=>rfl
 | (j,v)::r=>by
  have ih:=qvN l r
  show @Bool.rec (fun _=>Fr) ((j,v)::qmy l r) (@Bool.rec (fun _=>Fr) ((j,v)::qmy l r) (qmy l r) (Nat.blt j gh)) (qok l j)=_
  rw[ih,Fr.drop,qv0];cases l.contains j<;>cases Nat.blt j gh<;>rfl
def qfl{α β:Type}(f:α→β)(l:List α):List β := @List.rec α (fun _=>List β) [] (fun x _ ih=>f x::ih) l
theorem qaM{α β:Type}(f:α→β):∀l,qfl f l=l.map f
 | []=>rfl
 |x::r=>by show f x::qfl f r=_;rw[qaM f r];rfl
def qmx{α:Type}(l m:List α):List α := @List.rec α (fun _=>List α) m (fun x _ ih=>x::ih) l
theorem qr4{α:Type}:∀(l m:List α),qmx l m=l++m
 | [],m=>rfl
 |x::r,m=>by show x::qmx r m=_;rw[qr4 r m];rfl
def qiC{α:Type}(l:List α):Nat := @List.rec α (fun _=>Nat) 0 (fun _ _ ih=>Nat.succ ih) l
theorem qmA{α:Type}:∀(l:List α),qiC l=l.length
 | []=>rfl
 |x::r=>by show Nat.succ (qiC r)=_;rw[qmA r];rfl
def qsb{α:Type}(l:List α):Nat→Option α := @List.rec α (fun _=>Nat→Option α) (fun _=>none) (fun x _ ih n => @Nat.rec (fun _=>Option α) (some x) (fun m _=>ih m) n) l
theorem qv3{α:Type}:∀(l:List α) (n:Nat),qsb l n=l[n]?
 | [],n=>rfl
 |x::r,0=>rfl
 |x::r,n+1=>by show qsb r n=_;rw[qv3 r n];rfl
def qsc{α:Type}(x:α)(n:Nat)(l:List α):List α := @Nat.rec (fun _=>List α) l (fun _ ih=>x::ih) n
theorem qv7{α:Type}(x:α)(l:List α):∀n,qsc x n l=List.replicate n x++l
 | 0=>rfl
 |n+1=>by show x::qsc x n l=_;rw[qv7 x l n];rfl
def qhk(H:Heap)(o:Nat):Option Obj := @Option.rec (Option Obj) (fun _=>Option Obj) none (fun x=>x) (qsb H o)
theorem qBQ(H:Heap)(o:Nat):qhk H o=Heap.obj H o:=by
 unfold qhk Heap.obj;rw[qv3];cases H[o]? <;> rfl
def krd(E:Env)(fr:Fr)(x:Rand):PV := @Rand.rec (fun _=>PV) (fun t=>qmz fr t) (fun v=>.d v) (fun n=>match E.G n with|some (v,k)=>.q v k 0|none=>.u) (fun n=>.f n []) x
theorem qv6(E:Env)(fr:Fr):krd E fr=rd E fr:=by
 funext x
 cases x with
 |t n=>exact qr8 fr n
 |c v=>rfl
 |f n=>rfl
 |g n=>simp only[krd,rd];cases E.G n<;>rfl
def qaW:Heap→K→PV→Option PV:=qcv
def qaX:Heap→K→PV→PV→Option Heap:=qch
def qaU:Heap→K→PV→PV→Option PV:=iaddr
def qaT:BinOp→PV→PV→Option DV:=qaN
def qaQ:Nat→PV→Option PV:=qhm
def qaV:Heap→Bool→PV→Option Nat:=qfC
def qrR(x:Rand)(E:Env)(fr:Fr)(H:Heap)(_id:Nat):Option (PV×Heap):=some (krd E fr x,H)
def qrV(c:Rand)(a:Rand)(b:Rand)(E:Env)(fr:Fr)(H:Heap)(_id:Nat):Option (PV×Heap):=match krd E fr c with
  | .d (.b true)=>some (krd E fr a,H)
  | .d (.b false)=>some (krd E fr b,H)
  | _=>none
def qrg(k:K)(z:DV)(_E:Env)(_fr:Fr)(H:Heap)(id:Nat):Option (PV×Heap):=some (.p id 0 0,H.put id (some (.box k (.d z))))
def qrk(k:K)(x:Rand)(E:Env)(fr:Fr)(H:Heap)(id:Nat):Option (PV×Heap):=if fits k (krd E fr x)then some (.p id 0 0,H.put id (some (.box k (krd E fr x))))else none
def qrf(z:List DV)(parts:List (Nat×K×Rand))(E:Env)(fr:Fr)(H:Heap)(_id:Nat):Option (PV×Heap):=match qfu (z.map .d) (parts.map fun x=>(x.1,x.2.1,krd E fr x.2.2))with
  |some cs=>some (mkA cs,H)
  |none=>none
def qrm(k:K)(z:DV)(len:Nat)(parts:List (Nat×Rand))(E:Env)(fr:Fr)(H:Heap)(id:Nat):Option (PV×Heap):=match qcd H k (List.replicate len z) (parts.map fun x=>(x.1,krd E fr x.2))with
  |some (es,os)=>some (.r id k 0 len true,(frz H os).put id (some (.sl k 0 es)))
  |none=>none
def qrH(k:K)(x:Rand)(E:Env)(fr:Fr)(H:Heap)(_id:Nat):Option (PV×Heap):=opt (qaW H k (krd E fr x)) H
def qr1(k:K)(x:Rand)(y:Rand)(E:Env)(fr:Fr)(H:Heap)(_id:Nat):Option (PV×Heap):=match qaX H k (krd E fr x) (krd E fr y)with|some H'=>some (.u,H')|none=>none
def qrj(op:BinOp)(x:Rand)(y:Rand)(E:Env)(fr:Fr)(H:Heap)(_id:Nat):Option (PV×Heap):=qgY (qaT op (krd E fr x) (krd E fr y)) H
def qrw(neg:Bool)(n:List Nat)(x:Rand)(y:Rand)(E:Env)(fr:Fr)(H:Heap)(_id:Nat):Option (PV×Heap):=match eqA n (krd E fr x) (krd E fr y)with
  |some e=>some (.d (.b (if neg then !e else e)),H)
  |none=>none
def qrv(neg:Bool)(x:Rand)(y:Rand)(E:Env)(fr:Fr)(H:Heap)(_id:Nat):Option (PV×Heap):=match krd E fr x,krd E fr y with
  | .d (.b a),.d (.b b)=>some (.d (.b (if neg then !(a==b)else a==b)),H)
  | _,_=>none
def qrF(neg:Bool)(kd:Nat)(x:Rand)(E:Env)(fr:Fr)(H:Heap)(_id:Nat):Option (PV×Heap):=match qgl kd (krd E fr x)with|some b=>some (.d (.b (if neg then !b else b)),H)|none=>none
def qr3(op:UnOp)(x:Rand)(E:Env)(fr:Fr)(H:Heap)(_id:Nat):Option (PV×Heap):=qgY (unA op (krd E fr x)) H
def qrs(k:IntKind)(x:Rand)(E:Env)(fr:Fr)(H:Heap)(_id:Nat):Option (PV×Heap):=match krd E fr x with | .d (.i _ n)=>some (.d (.i k (k.wrap n)),H)|_=>none
def qr0(x:Rand)(lo:Option Rand)(hi:Option Rand)(E:Env)(fr:Fr)(H:Heap)(_id:Nat):Option (PV×Heap):=match krd E fr x with
  | .d (.s s)=>match bnd s.length s.length (hi.map (krd E fr))with
   |some h=>match bnd 0 h (lo.map (krd E fr))with
    |some l=>some (.d (.s ((s.take h).drop l)),H)
    |none=>none
   |none=>none
  | _=>none
def qrZ(k:K)(x:Rand)(lo:Option Rand)(hi:Option Rand)(mx:Option Rand)(E:Env)(fr:Fr)(H:Heap)(_id:Nat):Option (PV×Heap):=opt (slA H k (krd E fr x) (lo.map (krd E fr)) (hi.map (krd E fr)) (mx.map (krd E fr))) H
def qry(off:Nat)(x:Rand)(E:Env)(fr:Fr)(H:Heap)(_id:Nat):Option (PV×Heap):=opt (qaQ off (krd E fr x)) H
def qrz(off:Nat)(k:K)(x:Rand)(E:Env)(fr:Fr)(H:Heap)(_id:Nat):Option (PV×Heap):=opt (qjt off k (krd E fr x)) H
def qrA(k:K)(x:Rand)(i:Rand)(E:Env)(fr:Fr)(H:Heap)(_id:Nat):Option (PV×Heap):=opt (qaU H k (krd E fr x) (krd E fr i)) H
def qrB(len:Nat)(k:K)(x:Rand)(i:Rand)(E:Env)(fr:Fr)(H:Heap)(_id:Nat):Option (PV×Heap):=match asI (krd E fr i)with
  |some n=>match inR n len with|some j=>opt (qaQ (j*k.size) (krd E fr x)) H|none=>none
  |none=>none
def qrD(x:Rand)(i:Rand)(E:Env)(fr:Fr)(H:Heap)(_id:Nat):Option (PV×Heap):=match krd E fr x,asI (krd E fr i)with
  | .d (.s s),some n=>if 0≤n then match s[n.toNat]? with
   |some b=>some (.d (.i .u8 b.toNat),H)
   |none=>none
   else none
  | _,_=>none
def qrC(len:Nat)(k:K)(x:Rand)(i:Rand)(E:Env)(fr:Fr)(H:Heap)(_id:Nat):Option (PV×Heap):=match asI (krd E fr i)with
  |some n=>match inR n len with
   |some j=>opt (qjt (j*k.size) k (krd E fr x)) H
   |none=>none
  |none=>none
def qrG(str:Bool)(x:Rand)(E:Env)(fr:Fr)(H:Heap)(_id:Nat):Option (PV×Heap):=match qaV H str (krd E fr x)with|some n=>some (.d (.i .i64 n),H)|none=>none
def qrh(k:K)(bytes:Nat)(x:Rand)(y:Rand)(E:Env)(fr:Fr)(H:Heap)(id:Nat):Option (PV×Heap):=qfv H id k bytes (krd E fr x) (krd E fr y)
def qrn(f:Nat)(args:List Rand)(E:Env)(fr:Fr)(H:Heap)(_id:Nat):Option (PV×Heap):=match qaK H (qfl (krd E fr) args)with
  |some (ds,os)=>match E.val f ds with
   |some (r,_)=>some (r,if os.isEmpty||r.scal then H else frz H os)
   |none=>none
  |none=>none
def qro(f:Nat)(args:List Rand)(E:Env)(fr:Fr)(H:Heap)(id:Nat):Option (PV×Heap):=match qaK H (qfl (krd E fr) args)with
  |some (ds,os)=>match E.val f ds with
   |some (.d (.l k es _),true)=>some (.r id k 0 es.length false,(if os.isEmpty then H else frz H os).put id (some (.sl k 0 es)))
   | _=>none
  |none=>none
def qrp(f:Nat)(args:List Rand)(E:Env)(fr:Fr)(H:Heap)(_id:Nat):Option (PV×Heap):=E.ref f (qfl (krd E fr) args) H
def qBz(mode f:Nat)(args:List Rand):Env→Fr→Heap→Nat→Option (PV×Heap) := @Nat.rec (fun _=>Env→Fr→Heap→Nat→Option (PV×Heap)) (qrn f args) (fun m _ => @Nat.rec (fun _=>Env→Fr→Heap→Nat→Option (PV×Heap)) (qro f args) (fun _ _=>qrp f args) m) mode
def qrq(x:Rand)(args:List Rand)(E:Env)(fr:Fr)(H:Heap)(_id:Nat):Option (PV×Heap):=match krd E fr x with
  | .f n caps=>match (if caps.isEmpty then qal (qfl (krd E fr) args)else none)with
   |some ds=>match E.val n ds with
    |some (r,_)=>some (r,H)
    |none=>none
   |none=>E.ref n (qfl (krd E fr) args++caps) H
  | .m n firsts=>match qal (firsts++qfl (krd E fr) args)with
   |some ds=>match E.val n ds with
    |some (r,_)=>some (r,H)
    |none=>none
   |none=>E.ref n (firsts++qfl (krd E fr) args) H
  | .h o=>E.yld o (qfl (krd E fr) args) H
  | _=>none
def qrx(x:Rand)(i:Nat)(E:Env)(fr:Fr)(H:Heap)(_id:Nat):Option (PV×Heap):=match krd E fr x with
  | .t vs=>opt vs[i]? H
  | _=>none
def qrL(f:Nat)(caps:List Rand)(E:Env)(fr:Fr)(H:Heap)(_id:Nat):Option (PV×Heap):=some (.f f (qfl (krd E fr) caps),H)
def qrN(f:Nat)(caps:List Rand)(E:Env)(fr:Fr)(H:Heap)(_id:Nat):Option (PV×Heap):=some (.m f (qfl (krd E fr) caps),H)
def qrW(p:Nat)(args:List Rand)(E:Env)(fr:Fr)(H:Heap)(_id:Nat):Option (PV×Heap):=opt (qgE p (qfl (krd E fr) args)) H
def qrT(x:Rand)(E:Env)(fr:Fr)(H:Heap)(_id:Nat):Option (PV×Heap):=match krd E fr x with
  | .p o i c=>some (.p o i c,H)
  | .q v k c=>some (.q v k c,H)
  | .f n cs=>some (.f n cs,H)
  | _=>none
def qrP(k:K)(bytes:Nat)(z:DV)(len:Rand)(cap:Rand)(E:Env)(fr:Fr)(H:Heap)(id:Nat):Option (PV×Heap):=match asI (krd E fr len),asI (krd E fr cap)with
  |some n,some c=>if 0≤n∧n≤c∧c*bytes≤2^47 then some (.r id k 0 n.toNat false,H.put id (some (.sl k 0 (List.replicate n.toNat z))))else none
  | _,_=>none
def qrK(mx:Bool)(args:List Rand)(E:Env)(fr:Fr)(H:Heap)(_id:Nat):Option (PV×Heap):=match qfl (krd E fr) args with
  |v::r=>opt (mmA mx v r) H
  | []=>none
def qrt(k:K)(x:Rand)(y:Rand)(E:Env)(fr:Fr)(H:Heap)(_id:Nat):Option (PV×Heap):=match krd E fr x with
  | .r o k' off len _=>match qhk H o,qbo H k (krd E fr y)with
   |some (.sl k'' ro es),some ys =>
    if K.eq k k'&&K.eq k k''&&decide (off+len≤es.length)&&decide (ro≤off)then
     let n:=min ys.length len
     some (.d (.i .i64 n),H.put o (some (.sl k ro (putAt es off (ys.take n)))))
    else none
   | _,_=>none
  | _=>none
def qrr(k:K)(z:DV)(x:Rand)(E:Env)(fr:Fr)(H:Heap)(_id:Nat):Option (PV×Heap):=match krd E fr x with
  | .r o k' off len _=>match qhk H o with
   |some (.sl k'' ro es) =>
    if K.eq k k'&&K.eq k k''&&decide (off+len≤es.length)&&decide (ro≤off)then some (.t [],H.put o (some (.sl k ro (putAt es off (List.replicate len z)))))else none
   | _=>none
  | .d (.l _ [] _)=>some (.t [],H)
  | _=>none
def qrM(t:Nat)(x:Rand)(E:Env)(fr:Fr)(H:Heap)(_id:Nat):Option (PV×Heap):=match pur H (krd E fr x)with
  |some (v,os)=>some (.d (.ifc t v),frz H os)
  |none=>some (.w t (krd E fr x),H)
def qr2(t:Nat)(z:DV)(ok:Bool)(x:Rand)(E:Env)(fr:Fr)(H:Heap)(_id:Nat):Option (PV×Heap):=match krd E fr x with
  | .d (.ifc u v)=>if u=t then some (if ok then .t [.d v,.d (.b true)]else .d v,H)else if ok then some (.t [.d z,.d (.b false)],H)else none
  | .w u v=>if u=t then some (if ok then .t [v,.d (.b true)]else v,H)else if ok then some (.t [.d z,.d (.b false)],H)else none
  | .d .ni=>if ok then some (.t [.d z,.d (.b false)],H)else none
  | _=>none
def qrE(tab:List (Nat×Nat×Nat))(x:Rand)(args:List Rand)(E:Env)(fr:Fr)(H:Heap)(_id:Nat):Option (PV×Heap):=match krd E fr x with
  | .d (.ifc u v)=>match qsn u tab with
   |some (0,f)=>match qaK H (qfl (krd E fr) args)with
    |some (ds,os)=>match E.val f (v::ds)with
     |some (r,_)=>some (r,if os.isEmpty||r.scal then H else frz H os)
     |none=>none
    |none=>none
   |some (_,f)=>E.ref f (.d v::qfl (krd E fr) args) H
   |none=>none
  | _=>none
def qrO (_E:Env)(_fr:Fr)(H:Heap)(id:Nat):Option (PV×Heap):=some (.h id,H.put id (some (.mp [])))
def qrJ(ky:Ky)(z:DV)(ok:Bool)(x:Rand)(i:Rand)(E:Env)(fr:Fr)(H:Heap)(_id:Nat):Option (PV×Heap):=match krd E fr i,krd E fr x with
  | .d k,.h o=>if qgi ky k then match qhk H o with
   |some (.mp es)=>match qdD k es with
    |some r=>some (if ok then .t [.d (r.getD z),.d (.b r.isSome)]else .d (r.getD z),H)
    |none=>none
   | _=>none
   else none
  | _,_=>none
def qrS(ky:Ky)(x:Rand)(i:Rand)(v:Rand)(E:Env)(fr:Fr)(H:Heap)(_id:Nat):Option (PV×Heap):=match krd E fr i,krd E fr x,pur H (krd E fr v)with
  | .d k,.h o,some (xv,os)=>if qgi ky k then match qhk H o with
   |some (.mp es)=>match qfU k xv es with
    |some es'=>some (.u,(frz H os).put o (some (.mp es')))
    |none=>none
   | _=>none
   else none
  | _,_,_=>none
def qrI(ky:Ky)(x:Rand)(i:Rand)(E:Env)(fr:Fr)(H:Heap)(_id:Nat):Option (PV×Heap):=match krd E fr i,krd E fr x with
  | .d k,.h o=>if qgi ky k then match qhk H o with
   |some (.mp es)=>match qqv k es with
    |some es'=>some (.u,H.put o (some (.mp es')))
    |none=>none
   | _=>none
   else none
  | _,_=>none
def qrQ(x:Rand)(E:Env)(fr:Fr)(H:Heap)(_id:Nat):Option (PV×Heap):=match krd E fr x with
  | .h o=>match qhk H o with
   |some (.mp es)=>some (.d (.i .i64 es.length),H)
   | _=>none
  | _=>none
def qrX(x:Rand)(E:Env)(fr:Fr)(H:Heap)(id:Nat):Option (PV×Heap):=match krd E fr x with
  | .d (.s l)=>some (.h id,H.put id (some (.si l 0)))
  | _=>none
def qrU(x:Rand)(E:Env)(fr:Fr)(H:Heap)(_id:Nat):Option (PV×Heap):=match krd E fr x with
  | .h o=>match qhk H o with
   |some (.si l pos) =>
    if pos<l.length then
     let c:=Utf8.decode ⟨l.toArray⟩ pos
     some (.t [.d (.b true),.d (.i .i64 pos),.d (.i .i32 c.1)],H.put o (some (.si l (pos+c.2))))
    else some (.t [.d (.b false)],H)
   | _=>none
  | _=>none
def qrY(x:Rand)(E:Env)(fr:Fr)(H:Heap)(_id:Nat):Option (PV×Heap):=match krd E fr x with
  | .d (.s _)=>none
  |y=>match qbo H none y with
   |some es=>match qqu es with|some l=>some (.d (.s l),H)|none=>none
   |none=>none
def qrl(x:Rand)(E:Env)(fr:Fr)(H:Heap)(_id:Nat):Option (PV×Heap):=match krd E fr x with
  | .d (.s l)=>some (.d (.l none (bytesOf l) false),H)
  | _=>none
def qru(x:Rand)(y:Rand)(E:Env)(fr:Fr)(H:Heap)(_id:Nat):Option (PV×Heap):=match krd E fr x,krd E fr y with
  | .f n caps,.u=>some (.g (.f n caps),H)
  | _,_=>none
def qri (_E:Env)(_fr:Fr)(_H:Heap)(_id:Nat):Option (PV×Heap):=none
def kop(op:IOp):Env→Fr→Heap→Nat→Option (PV×Heap) := @IOp.rec (fun _=>Env→Fr→Heap→Nat→Option (PV×Heap)) qrR qrV qrg qrk qrf qrm qrH qr1 qrj qrw qrv qrF qr3 qrs qr0 qrZ qry qrz qrA qrB qrD qrC qrG qrh qBz qrq qrx qrL qrN qrW qrT qrP qrK qrt qrr qrM qr2 qrE qrO qrJ qrS qrI qrQ qrX qrU qrY qrl qru qri op
theorem qBR(op:IOp)(E:Env)(fr:Fr)(H:Heap)(id:Nat):kop op E fr H id=qaa E (rd E fr) H id op:=by
 rw[←qv6];have ko:qhk=Heap.obj:=by funext H o;exact qBQ H o
 cases op with
 |mov x=>show qrR x E fr H id=_;simp only[qrR,qaa]<;>rfl
 |pick c a b=>show qrV c a b E fr H id=_;simp only[qrV,qaa]<;>rfl
 |alloc k z=>show qrg k z E fr H id=_;simp only[qrg,qaa]<;>rfl
 |box k x=>show qrk k x E fr H id=_;simp only[qrk,qaa]<;>rfl
 |agg z parts=>show qrf z parts E fr H id=_;simp only[qrf,qaa]<;>rfl
 |bsl k z len parts=>show qrm k z len parts E fr H id=_;simp only[qrm,qaa]<;>rfl
 |load k x=>show qrH k x E fr H id=_;simp only[qrH,qaa,qaW]<;>rfl
 |store k x y=>show qr1 k x y E fr H id=_;simp only[qr1,qaa,qaX]<;>rfl
 |bin op x y=>show qrj op x y E fr H id=_;simp only[qrj,qaa,qaT]<;>rfl
 |eqv neg n x y=>show qrw neg n x y E fr H id=_;simp only[qrw,qaa]<;>rfl
 |eqb neg x y=>show qrv neg x y E fr H id=_;simp only[qrv,qaa]<;>rfl
 |isnil neg kd x=>show qrF neg kd x E fr H id=_;simp only[qrF,qaa]<;>rfl
 |un op x=>show qr3 op x E fr H id=_;simp only[qr3,qaa]<;>rfl
 |conv k x=>show qrs k x E fr H id=_;simp only[qrs,qaa]<;>rfl
 |slS x lo hi=>show qr0 x lo hi E fr H id=_;simp only[qr0,qaa]<;>rfl
 |sl k x lo hi mx=>show qrZ k x lo hi mx E fr H id=_;simp only[qrZ,qaa]<;>rfl
 |faddr off x=>show qry off x E fr H id=_;simp only[qry,qaa,qaQ]<;>rfl
 |field off k x=>show qrz off k x E fr H id=_;simp only[qrz,qaa]<;>rfl
 |iaddr k x i=>show qrA k x i E fr H id=_;simp only[qrA,qaa,qaU]<;>rfl
 |iaddrA len k x i=>show qrB len k x i E fr H id=_;simp only[qrB,qaa,qaQ]<;>rfl
 |idxS x i=>show qrD x i E fr H id=_;simp only[qrD,qaa]<;>rfl
 |idxA len k x i=>show qrC len k x i E fr H id=_;simp only[qrC,qaa]<;>rfl
 |len str x=>show qrG str x E fr H id=_;simp only[qrG,qaa,qaV]<;>rfl
 |app k bytes x y=>show qrh k bytes x y E fr H id=_;simp only[qrh,qaa]<;>rfl
 |call m f args=>match m with
  | 0=>show qrn f args E fr H id=_;simp only[qrn,qaa,qaM]<;>rfl
  | 1=>show qro f args E fr H id=_;simp only[qro,qaa,qaM]<;>rfl
  |m+2=>show qrp f args E fr H id=_;simp only[qrp,qaa,qaM]<;>rfl
 |callv x args=>show qrq x args E fr H id=_;simp only[qrq,qaa,qaM]<;>rfl
 |ext x i=>show qrx x i E fr H id=_;simp only[qrx,qaa]<;>rfl
 |mkf f caps=>show qrL f caps E fr H id=_;simp only[qrL,qaa,qaM]<;>rfl
 |mkm f caps=>show qrN f caps E fr H id=_;simp only[qrN,qaa,qaM]<;>rfl
 |prim p args=>show qrW p args E fr H id=_;simp only[qrW,qaa,qaM]<;>rfl
 |nilck x=>show qrT x E fr H id=_;simp only[qrT,qaa]<;>rfl
 |mksl k bytes z len cap=>show qrP k bytes z len cap E fr H id=_;simp only[qrP,qaa]<;>rfl
 |minmax mx args=>show qrK mx args E fr H id=_;simp only[qrK,qaa,qaM]<;>rfl
 |copy k x y=>show qrt k x y E fr H id=_;simp only[qrt,qaa,ko]<;>rfl
 |clr k z x=>show qrr k z x E fr H id=_;simp only[qrr,qaa,ko]<;>rfl
 |mkif t x=>show qrM t x E fr H id=_;simp only[qrM,qaa]<;>rfl
 |tas t z ok x=>show qr2 t z ok x E fr H id=_;simp only[qr2,qaa]<;>rfl
 |invk tab x args=>show qrE tab x args E fr H id=_;simp only[qrE,qaa,qaM]<;>rfl
 |mkmap  => show qrO  E fr H id=_;simp only[qrO,qaa]<;>rfl
 |mget ky z ok x i=>show qrJ ky z ok x i E fr H id=_;simp only[qrJ,qaa,ko]<;>rfl
 |mset ky x i v=>show qrS ky x i v E fr H id=_;simp only[qrS,qaa,ko]<;>rfl
 |mdel ky x i=>show qrI ky x i E fr H id=_;simp only[qrI,qaa,ko]<;>rfl
 |mlen x=>show qrQ x E fr H id=_;simp only[qrQ,qaa,ko]<;>rfl
 |rngS x=>show qrX x E fr H id=_;simp only[qrX,qaa]<;>rfl
 |nxt x=>show qrU x E fr H id=_;simp only[qrU,qaa,ko]<;>rfl
 |sb x=>show qrY x E fr H id=_;simp only[qrY,qaa]<;>rfl
 |bs x=>show qrl x E fr H id=_;simp only[qrl,qaa]<;>rfl
 |dfr x y=>show qru x y E fr H id=_;simp only[qru,qaa]<;>rfl
 |bad  => show qri  E fr H id=_;simp only[qri,qaa]<;>rfl
def qoi(d:Option Nat)(fr:Fr)(v:PV):Fr := @Option.rec Nat (fun _=>Fr) fr (fun t=>qsd fr t v) d
abbrev KCf:=Env→Nat→Fr→Heap→Option St
def qog(op:IOp)(id:Nat):Nat := @Bool.rec (fun _=>Nat) id (Nat.succ id) op.adds
def kgo(dst:Option Nat)(op:IOp)(ih:KCf)(E:Env)(id:Nat)(fr:Fr)(H:Heap):Option St := @Option.rec (PV×Heap) (fun _=>Option St) none (fun p => @Prod.rec PV Heap (fun _=>Option St) (fun v H'=>ih E (qog op id) (qoi dst fr v) H') p) (kop op E fr H id)
def kno(dst:Option Nat)(op:IOp)(ih:KCf)(E:Env)(id:Nat)(fr:Fr)(H:Heap):Option St:=ih E (qog op id) (qoi dst fr (.t [])) H
def qvZ(v:PV)(want:Bool)(go no:Option St):Option St:=match v with
 | .d (.b b)=>if b==want then go else no
 | .t []=>no
 | _=>none
def qse(dst:Option Nat)(op:IOp)(g:Option (Nat×Bool))(ih:KCf)(E:Env)(id:Nat)(fr:Fr)(H:Heap):Option St :=
 @Option.rec (Nat×Bool) (fun _=>Option St) (kgo dst op ih E id fr H) (fun p => @Prod.rec Nat Bool (fun _=>Option St) (fun t want=>qvZ (qmz fr t) want (kgo dst op ih E id fr H) (kno dst op ih E id fr H)) p) g
def qkG(l:List IOper):KCf := @List.rec IOper (fun _=>KCf) (fun _ _ fr H=>some ⟨fr,H⟩) (fun o _ ih => @IOper.rec (fun _=>KCf) (fun dst op g=>qse dst op g ih) o) l
def qoS(d:Option Nat)(fr:Fr)(v:PV):Fr:=match d with|some t=>fr.set t v|none=>fr
theorem qv4(E:Env):∀(l:List IOper) (id:Nat) (fr:Fr) (H:Heap),qkG l E id fr H=qaP E l id ⟨fr,H⟩
 | [],id,fr,H=>rfl
 | ⟨dst,op,g⟩::r,id,fr,H=>by
  have ih:=qv4 E r
  have hadd:qog op id=if op.adds then id+1 else id:=by unfold qog;cases op.adds<;>rfl
  have hd:∀v,qoi dst fr v=qoS dst fr v:=by intro v;cases dst<;>simp[qoi,qv9,qoS]
  have hgo:kgo dst op (qkG r) E id fr H=match qaa E (rd E fr) H id op with|some (v,H')=>qaP E r (if op.adds then id+1 else id) ⟨qoS dst fr v,H'⟩|none=>none:=by
   unfold kgo;rw[qBR];cases h:qaa E (rd E fr) H id op with
   |none=>rfl
   |some p=>obtain⟨v,H'⟩:=p;show qkG r E _ _ _=_;rw[ih,hadd,hd]
  have hno:kno dst op (qkG r) E id fr H=qaP E r (if op.adds then id+1 else id) ⟨qoS dst fr (.t []),H⟩:=by
   unfold kno;rw[ih,hadd,hd]
  show qse dst op g (qkG r) E id fr H=_
  unfold qse;rw[qaP,hgo,hno];cases g with
  |none=>cases dst<;>rfl
  |some p =>
   obtain⟨t,want⟩:=p;show qvZ (qmz fr t) want _ _=_
   rw[qr8];cases dst<;>rfl
def qol(ops:List IOper)(kill:List Nat)(E:Env)(fr:Fr)(H:Heap):Option St := @Option.rec St (fun _=>Option St) none (fun s => @St.rec (fun _=>Option St) (fun fr' H'=>some ⟨qmy kill fr',H'⟩) s) (qkG ops E (qiC H) fr (qmx H (qsc none (qaq ops) [])))
theorem qBT(ops:List IOper)(kill:List Nat)(E:Env)(fr:Fr)(H:Heap):qol ops kill E fr H=qfZ E ops kill ⟨fr,H⟩:=by
 unfold qol qfZ;rw[qv4,qmA,qr4,qv7,List.append_nil];cases qaP E ops H.length ⟨fr,H++List.replicate (qaq ops) none⟩with
 |none=>rfl
 |some s=>obtain⟨fr',H'⟩:=s;show some _=_;rw[qvN]
abbrev KR:=Env→((St→Res)→St→Res)→Nat→Fr→Heap→Res
def qwa(r:Res)(f:Fr→Heap→Res):Res := @Option.rec (Ex×St) (fun _=>Res) none (fun p => @Prod.rec Ex St (fun _=>Res) (fun e s => @Ex.rec (fun _=>Res) (@St.rec (fun _=>Res) f s) (fun j=>some (.exit j,s)) (some (.ret,s)) e) p) r
def qBJ:KR:=fun _ _ _ fr H=>some (.norm,⟨fr,H⟩)
def qBE(ops:List IOper)(kill:List Nat):KR:=fun E _ _ fr H => @Option.rec St (fun _=>Res) none (fun s=>some (.norm,s)) (qol ops kill E fr H)
def qBF(ops:List IOper)(bf kill:List Nat):KR:=fun E _ _ fr H=>match qgu E ops bf kill ⟨fr,H⟩with|some s'=>some (.norm,s')|none=>none
def qBI(_ _:PC)(a b:KR):KR:=fun E lp base fr H=>qwa (a E lp base fr H) fun fr H=>b E lp base fr H
def qr5(c:Rand)(_ _:PC)(x y:KR):KR:=fun E lp base fr H=>match krd E fr c with
 | .d (.b true)=>x E lp base fr H
 | .d (.b false)=>y E lp base fr H
 | _=>none
def qvM(id:Nat)(r:Res):Res := @Option.rec (Ex×St) (fun _=>Res) none (fun p => @Prod.rec Ex St (fun _=>Res) (fun e s => @Ex.rec (fun _=>Res) (some (.norm,s)) (fun j => @Bool.rec (fun _=>Res) (some (.exit j,s)) (some (.norm,s)) (Nat.beq j id)) (some (.ret,s)) e) p) r
def qBB(id:Nat)(_:PC)(x:KR):KR:=fun E lp base fr H=>qvM id (x E lp base fr H)
def qv8(live:List Nat)(x:KR)(E:Env)(lp:(St→Res)→St→Res)(base:Nat)(s:St):Res := @St.rec (fun _=>Res) (fun fr H=>x E lp base fr H) (gc live base s)
def qBD(live:List Nat)(_:PC)(x:KR):KR:=fun E lp base fr H=>lp (qv8 live x E lp base) ⟨fr,H⟩
def qBH(f:Rand)(g:Nat)(ps live:List Nat)(a x:PC)(_ _:KR):KR:=fun E lp base fr H=>qan E lp base (.rng f g ps live a x) ⟨fr,H⟩
def qBC(id:Nat):KR:=fun _ _ _ fr H=>some (.exit id,⟨fr,H⟩)
def qBG:KR:=fun _ _ _ fr H=>some (.ret,⟨fr,H⟩)
def qBA:KR:=fun _ _ _ _ _=>none
def kev(c:PC):KR := @PC.rec (fun _=>KR) qBJ qBE qBF qBI qr5 qBB qBD qBH qBC qBG qBA c
theorem qBK(E:Env)(lp:(St→Res)→St→Res)(base:Nat):∀(c:PC) (fr:Fr) (H:Heap),kev c E lp base fr H=qan E lp base c ⟨fr,H⟩:=by
 intro c;induction c with
 |skip=>intro fr H;rfl
 |reg ops kill =>
  intro fr H;show @Option.rec St (fun _=>Res) none (fun s=>some (.norm,s)) (qol ops kill E fr H)=_
  rw[qBT,qan];cases qfZ E ops kill ⟨fr,H⟩<;>rfl
 |regD ops bf kill=>intro fr H;rfl
 |seq a b iha ihb =>
  intro fr H;show qwa (kev a E lp base fr H) (fun fr H=>kev b E lp base fr H)=_
  rw[iha,qan];cases qan E lp base a ⟨fr,H⟩with
  |none=>rfl
  |some p =>
   obtain⟨e,s⟩:=p;cases e with
   |norm=>obtain⟨fr',H'⟩:=s;exact ihb fr' H'
   |exit j=>rfl
   |ret=>rfl
 |cond c x y ihx ihy =>
  intro fr H;show qr5 c x y (kev x) (kev y) E lp base fr H=_
  unfold qr5;rw[qv6,qan,ihx,ihy];rfl
 |block id x ih =>
  intro fr H;show qvM id (kev x E lp base fr H)=_
  rw[ih,qan];cases qan E lp base x ⟨fr,H⟩with
  |none=>rfl
  |some p =>
   obtain⟨e,s⟩:=p;cases e with
   |norm=>rfl
   |exit j =>
    show @Bool.rec (fun _=>Res) (some (.exit j,s)) (some (.norm,s)) (Nat.beq j id)=if j==id then _ else _
    have:(j==id)=Nat.beq j id:=by by_cases h:j=id; · { subst h;rw[Nat.beq_refl];simp }; · { rw[qma h];simpa using h }
    rw[this];cases Nat.beq j id<;>rfl
   |ret=>rfl
 |loop live x ih =>
  intro fr H;show lp (qv8 live (kev x) E lp base) ⟨fr,H⟩=_
  rw[qan];congr 1
  funext s
  exact ih _ _
 |rng f g ps live a x iha ihx=>intro fr H;rfl
 |exit id=>intro fr H;rfl
 |ret=>intro fr H;rfl
 |bad=>intro fr H;rfl
def klp(n:Nat):(St→Res)→St→Res := @Nat.rec (fun _=>(St→Res)→St→Res) (fun _ _=>none) (fun _ ih f s => @Option.rec (Ex×St) (fun _=>Res) none (fun p => @Prod.rec Ex St (fun _=>Res) (fun e s' => @Ex.rec (fun _=>Res) (ih f s') (fun j=>some (.exit j,s')) (some (.ret,s')) e) p) (f s)) n
theorem qsa:∀n,klp n=lpN n
 | 0=>rfl
 |n+1=>by
  funext f s
  have ih:=qsa n
  show @Option.rec (Ex×St) (fun _=>Res) none (fun p => @Prod.rec Ex St (fun _=>Res) (fun e s' => @Ex.rec (fun _=>Res) (klp n f s') (fun j=>some (.exit j,s')) (some (.ret,s')) e) p) (f s)=_
  rw[ih,lpN];cases f s with
  |none=>rfl
  |some p=>obtain⟨e,s'⟩:=p;cases e<;>rfl
def qvX(E:Env)(rs:List RV)(s:St):Option (PV×Heap):=match runG E (qak s.fr) s.H with
   |some H'=>match results s.fr H' rs with
    |some vs=>some (qfT vs,H')
    |none=>none
   |none=>none
def qr6(E:Env)(rs:List RV)(r:Res):Option (PV×Heap) := @Option.rec (Ex×St) (fun _=>Option (PV×Heap)) none (fun p => @Prod.rec Ex St (fun _=>Option (PV×Heap)) (fun e s => @Ex.rec (fun _=>Option (PV×Heap)) (qvX E rs s) (fun _=>none) (qvX E rs s) e) p) r
def qoh:List PV→Nat→Fr:=fun l => @List.rec PV (fun _=>Nat→Fr) (fun _=>[]) (fun v _ ih j=>qmx (ih (Nat.succ j)) [(j,v)]) l
theorem qvL:∀(l:List PV) (j:Nat),qoh l j=Fr.ofArgs j l
 | [],j=>rfl
 |v::r,j=>by show qmx (qoh r (j+1)) [(j,v)]=_;rw[qr4,qvL r,Fr.ofArgs]
def kfn(E:Env)(lp:(St→Res)→St→Res)(F:PF)(args:List PV)(H:Heap):Option (PV×Heap) := @PF.rec (fun _=>Option (PV×Heap)) (fun nargs rs body => @Bool.rec (fun _=>Option (PV×Heap)) none (qr6 E rs (kev body E lp (qiC H) (qoh args 0) H)) (Nat.beq (qiC args) nargs)) F
theorem qvY(E:Env)(lp:(St→Res)→St→Res)(F:PF)(args:List PV)(H:Heap):kfn E lp F args H=qbq E lp F args H:=by
 obtain⟨nargs,rs,body⟩:=F;show @Bool.rec (fun _=>Option (PV×Heap)) none (qr6 E rs (kev body E lp (qiC H) (qoh args 0) H)) (Nat.beq (qiC args) nargs)=_
 rw[qmA,qmA,qBK,qvL];unfold qbq;by_cases h:args.length=nargs
 ·rw[if_pos h,h,Nat.beq_refl];show qr6 E rs (qan E lp H.length body ⟨Fr.ofArgs 0 args,H⟩)=_
  cases qan E lp H.length body ⟨Fr.ofArgs 0 args,H⟩with
  |none=>rfl
  |some p=>obtain⟨e,s⟩:=p;cases e<;>rfl
 ·rw[if_neg h,qma h]
abbrev KY:=Nat→List PV→Heap→Option (PV×Heap)
structure KP where
 it:KY→KY
 val:Nat→List DV→Option (PV×Bool)
def qr9(E:Env)(lp:(St→Res)→St→Res)(args:List PV)(H:Heap)(F:PF):Option (PV×Heap) := @Option.rec (PV×Heap) (fun _=>Option (PV×Heap)) none (fun p => @Prod.rec PV Heap (fun _=>Option (PV×Heap)) (fun v H'=>some (gcV (qiC H) v H')) p) (kfn E lp F args H)
def kit(T:Tab)(n:Nat)(P:KP)(Y:KY)(f:Nat)(args:List PV)(H:Heap):Option (PV×Heap) := @Option.rec PF (fun _=>Option (PV×Heap)) (T.R f args H) (qr9 ⟨T.G,P.it noY,P.val,Y,P.it,T.dok⟩ (klp n) args H) (T.F f)
def qsg(E:Env)(lp:(St→Res)→St→Res)(args:List DV)(F:PF):Option (PV×Bool) := @Option.rec (PV×Heap) (fun _=>Option (PV×Bool)) none (fun p => @Prod.rec PV Heap (fun _=>Option (PV×Bool)) (fun v H'=>purT H' v) p) (kfn E lp F (qfl .d args) [])
def qsf(T:Tab)(n:Nat)(P:KP)(f:Nat)(args:List DV):Option (PV×Bool) := @Option.rec PF (fun _=>Option (PV×Bool)) (T.X f args) (qsg ⟨T.G,P.it noY,P.val,noY,P.it,T.dok⟩ (klp n) args) (T.F f)
def kN(T:Tab)(n:Nat):KP := @Nat.rec (fun _=>KP) ⟨fun _ _ _ _=>none,fun _ _=>none⟩ (fun n P=>⟨kit T n P,qsf T n P⟩) n
theorem qre(T:Tab):∀n,(kN T n).it=itN T n∧(kN T n).val=qfF T n
 | 0=>⟨by funext Y f a H;rw[itN];rfl,by funext f a;rw[qfF];rfl⟩
 |n+1=>by
  obtain⟨h1,h2⟩:=qre T n;constructor
  ·funext Y f a H
   show kit T n (kN T n) Y f a H=_
   rw[qgB];unfold kit;cases T.F f with
   |none=>rfl
   |some F =>
    show qr9 _ (klp n) a H F=_
    unfold qr9;rw[h1,h2,qsa,qvY,qmA];show @Option.rec (PV×Heap) (fun _=>Option (PV×Heap)) none _ (qbq (envY T n Y) (lpN n) F a H)=_
    dsimp only
    cases qbq (envY T n Y) (lpN n) F a H with
    |none=>rfl
    |some p=>rfl
  ·funext f a
   show qsf T n (kN T n) f a=_
   rw[qiR];unfold qsf;cases T.F f with
   |none=>rfl
   |some F =>
    show qsg _ (klp n) a F=_
    unfold qsg;rw[h1,h2,qsa,qvY,qaM];show @Option.rec (PV×Heap) (fun _=>Option (PV×Bool)) none _ (qbq (qdv T n) (lpN n) F (a.map .d) [])=_
    dsimp only
    cases qbq (qdv T n) (lpN n) F (a.map .d) []with
    |none=>rfl
    |some p=>rfl
theorem qhy{T:Tab}{f:Nat}{args:List DV}{r:PV×Bool}(n:Nat)(h:(kN T n).val f args=some r):T.val f args=some r:=(qkX T f args r).2 ⟨n,by rw[←(qre T n).2];exact h⟩
end
end Go.Sim
