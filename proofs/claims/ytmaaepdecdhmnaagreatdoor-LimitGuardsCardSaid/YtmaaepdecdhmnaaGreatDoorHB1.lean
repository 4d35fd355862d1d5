/- Part 1 of the proof. -/
import Derived.Control
set_option linter.all false
namespace Go.Sim
abbrev zza:=@Option.bind_eq_some_iff
abbrev zzb:=@Option.some.injEq
abbrev zzc:=@Prod.mk.injEq
abbrev zzd:=@List.idxOf?_cons
abbrev zze:=@List.getElem?_eq_getElem
abbrev zzf:=@Bool.and_eq_true
abbrev zzg:=@Bool.false_eq_true
abbrev zzh:=@Nat.mul_le_mul_right
abbrev zzi:=@List.mem_cons_of_mem
abbrev zzj:=@List.getElem?_map
abbrev zzk:=@List.getElem?_eq_some_iff
abbrev zzl:=@Nat.add_mul
abbrev zzm:=@Nat.not_lt_zero
abbrev zzn:=@List.length_cons
abbrev zzo:=@List.length_map
abbrev zzp:=@List.length_append
abbrev zzq:=@decide_eq_true_eq
abbrev zzr:=@List.mem_cons_self
abbrev zzs:=@List.getElem_mem
abbrev zzt:=@Nat.le_refl
abbrev zzu:=@List.map_cons
abbrev zzv:=@List.take_of_length_le
abbrev zzw:=@List.take_succ_eq_append_getElem
abbrev zzx:=@Array.getD_eq_getD_getElem?
abbrev zzy:=@Nat.eq_of_beq_eq_true
abbrev zzz:=@List.drop_eq_getElem_cons
abbrev zzA:=@Option.getD_some
abbrev zzB:=@List.mem_append
abbrev zzC:=@List.not_mem_nil
abbrev zzD:=@Bool.or_eq_false_iff
abbrev zzE:=@decide_eq_false_iff_not
abbrev zzF:=@List.drop_of_length_le
abbrev zzG:=@List.getElem_cons_succ
abbrev zzH:=@List.mem_singleton
abbrev zzI:=@List.length_take
abbrev zzJ:=@List.length_drop
abbrev zzK:=@Nat.zero_le
abbrev zzL:=@Nat.le_trans
abbrev zzM:=@List.append_assoc
abbrev zzN:=@List.mem_map
abbrev zzO:=@List.getElem_of_mem
set_option maxRecDepth 100000
set_option maxHeartbeats 8000000
abbrev K:=Option Nat
inductive DV where
 |b (x:Bool)
 |i (k:IntKind) (n:Int)
 |s (x:List UInt8)
 |a (cs:List DV)
 |l (k:K) (es:List DV) (tight:Bool)
 |np
 |nf
 |ni
 |nm
 |ifc (t:Nat) (v:DV)
 |tok (n:Nat)
 deriving Inhabited
inductive PV where
 |u
 |d (v:DV)
 |a (cs:List PV)
 |t (vs:List PV)
 |r (o:Nat) (k:K) (off len:Nat) (tight:Bool)
 |p (o i c:Nat)
 |q (v:DV) (k:K) (c:Nat)
 |f (fn:Nat) (caps:List PV)
 |h (o:Nat)
 |g (v:PV)
 |m (fn:Nat) (firsts:List PV)
 |w (t:Nat) (v:PV)
 deriving Inhabited
inductive Ab where
 |t (n:Nat)
 |c (v:DV)
 |g (n:Nat)
 |f (n:Nat)
 deriving Inhabited
inductive Ex where
 |norm
 |exit (id:Nat)
 |ret
 deriving Inhabited
inductive Obj where
 |box (k:K) (v:PV)
 |sl (k:K) (ro:Nat) (es:List DV)
 |mp (es:List (DV×DV))
 |si (s:List UInt8) (pos:Nat)
 |lp (st:Nat) (j:Option Ex)
 |df
 deriving Inhabited
abbrev Heap:=List (Option Obj)
abbrev Fr:=List (Nat×PV)
inductive Ky where
 |b
 |s
 |i (k:IntKind)
 |st (ks:List Nat)
 deriving Inhabited
inductive IOp where
 |mov (x:Ab)
 |pick (c a b:Ab)
 |alloc (k:K) (z:DV)
 |box (k:K) (x:Ab)
 |agg (z:List DV) (parts:List (Nat×K×Ab))
 |bsl (k:K) (z:DV) (len:Nat) (parts:List (Nat×Ab))
 |load (k:K) (x:Ab)
 |store (k:K) (x y:Ab)
 |bin (op:BinOp) (x y:Ab)
 |eqv (neg:Bool) (ks:List Nat) (x y:Ab)
 |eqb (neg:Bool) (x y:Ab)
 |BI (neg:Bool) (kd:Nat) (x:Ab)
 |un (op:UnOp) (x:Ab)
 |conv (k:IntKind) (x:Ab)
 |slS (x:Ab) (lo hi:Option Ab)
 |sl (k:K) (x:Ab) (lo hi mx:Option Ab)
 |Be (off:Nat) (x:Ab)
 |field (off:Nat) (k:K) (x:Ab)
 |Az (k:K) (x i:Ab)
 |BM (len:Nat) (k:K) (x i:Ab)
 |idxS (x i:Ab)
 |idxA (len:Nat) (k:K) (x i:Ab)
 |len (str:Bool) (x:Ab)
 |app (k:K) (bytes:Nat) (x y:Ab)
 |call (mode:Nat) (f:Nat) (args:List Ab)
 |BH (x:Ab) (args:List Ab)
 |ext (x:Ab) (i:Nat)
 |mkf (f:Nat) (caps:List Ab)
 |mkm (f:Nat) (caps:List Ab)
 |prim (p:Nat) (args:List Ab)
 |BQ (x:Ab)
 |mksl (k:K) (bytes:Nat) (z:DV) (len cap:Ab)
 |minmax (mx:Bool) (args:List Ab)
 |copy (k:K) (x y:Ab)
 |clr (k:K) (z:DV) (x:Ab)
 |mkif (t:Nat) (x:Ab)
 |tas (t:Nat) (z:DV) (ok:Bool) (x:Ab)
 |invk (tab:List (Nat×Nat×Nat)) (x:Ab) (args:List Ab)
 |Bz
 |mget (ky:Ky) (z:DV) (ok:Bool) (x i:Ab)
 |mset (ky:Ky) (x i v:Ab)
 |mdel (ky:Ky) (x i:Ab)
 |mlen (x:Ab)
 |rngS (x:Ab)
 |nxt (x:Ab)
 |sb (x:Ab)
 |bs (x:Ab)
 |dfr (x y:Ab)
 |bad
 deriving Inhabited
structure Ao where
 dst:Option Nat
 op:IOp
 g:Option (Nat×Bool)
 deriving Inhabited
inductive PC where
 |skip
 |reg (ops:List Ao) (kill:List Nat)
 |A7 (ops:List Ao) (bf:List Nat) (kill:List Nat)
 |seq (a b:PC)
 |cond (c:Ab) (x y:PC)
 |block (id:Nat) (x:PC)
 |loop (live:List Nat) (x:PC)
 |rng (f:Ab) (g:Nat) (ps:List Nat) (live:List Nat) (a x:PC)
 |exit (id:Nat)
 |ret
 |bad
 deriving Inhabited
inductive RV where
 |t (n:Nat)
 |c (n:Nat) (k:K)
 deriving Inhabited
structure PF where
 Bp:Nat
 results:List RV
 body:PC
 deriving Inhabited
def DV.cells:DV->List DV
 |.a cs=>cs
 |v=>[v]
def K.size:K->Nat
 |none=>1
 |some n=>n
def PV.cells:PV->List PV
 |.a cs=>cs
 |.d (.a cs)=>cs.map .d
 |v=>[v]
def qaf:List PV->Option (List DV)
 |[]=>some []
 |.d v::r=>match qaf r with|some vs=>some (v::vs)|none=>none
 |_::_=>none
def mkA(cs:List PV):PV:=match qaf cs with|some vs=>.d (.a vs)|none=>.a cs
def mkP(k:K)(cs:List PV):Option PV:=match k with
 |none=>match cs with|[v]=>some v|_=>none
 |some n=>if cs.length=n then some (mkA cs)else none
def mkD(k:K)(cs:List DV):Option DV:=match k with
 |none=>match cs with|[v]=>some v|_=>none
 |some n=>if cs.length=n then some (.a cs)else none
def Fr.get:Fr->Nat->PV
 |[],_=>.u
 | (j,v)::r,t=>if j=t then v else Fr.get r t
def Fr.set:Fr->Nat->PV->Fr
 |[],t,v=>[(t,v)]
 | (j,x)::r,t,v=>if j=t then (t,v)::r else if j<t then (t,v)::(j,x)::r else (j,x)::Fr.set r t v
def gh:Nat:=100000
def Fr.keep(l:List Nat):Fr->Fr
 |[]=>[]
 | (j,v)::r=>if l.contains j||Nat.ble gh j then (j,v)::Fr.keep l r else Fr.keep l r
def Fr.only(l:List Nat):Fr->Fr
 |[]=>[]
 | (j,v)::r=>if l.contains j&&Nat.blt j gh then (j,v)::Fr.only l r else Fr.only l r
def Fr.drop(l:List Nat):Fr->Fr
 |[]=>[]
 | (j,v)::r=>if l.contains j&&Nat.blt j gh then Fr.drop l r else (j,v)::Fr.drop l r
def Fr.Aa:Nat->List PV->Fr
 |_,[]=>[]
 |j,v::r=>Fr.Aa (j+1) r++[(j,v)]
def Heap.obj(H:Heap)(o:Nat):Option Obj:=match H[o]? with|some x=>x|none=>none
def Heap.put(H:Heap)(o:Nat)(x:Option Obj):Heap:=H.set o x
def qaW(H:Heap):PV->Option (DV×List Nat)
 |.d x=>some (x,[])
 |.r o k off len _=>match H.obj o with
  |some (.sl k' _ es)=>if k'=k/\off+len<=es.length then some (.l k ((es.drop off).take len) false,[o])else none
  |_=>none
 |_=>none
def qcA(H:Heap):List PV->Option (List DV×List Nat)
 |[]=>some ([],[])
 |v::r=>match qaW H v,qcA H r with
  |some (x,os),some (xs,ps)=>some (x::xs,os++ps)
  |_,_=>none
def pur(H:Heap):PV->Option (DV×List Nat)
 |.a cs=>match qcA H cs with|some (xs,os)=>some (.a xs,os)|none=>none
 |v=>qaW H v
def qaK(H:Heap):List PV->Option (List DV×List Nat)
 |[]=>some ([],[])
 |v::r=>match pur H v,qaK H r with
  |some (x,os),some (xs,ps)=>some (x::xs,os++ps)
  |_,_=>none
def AJ(H:Heap):PV->Option (PV×Bool)
 |.t vs=>match qaK H vs with|some (xs,_)=>some (.t (xs.map .d),false)|none=>none
 |.r o k off len _=>match H.obj o with
  |some (.sl k' ro es)=>if k'=k/\off+len<=es.length then some (.d (.l k ((es.drop off).take len) false),decide (ro<=off))else none
  |_=>none
 |.d (.l k es true)=>some (.d (.l k es false),es.isEmpty)
 |v=>match pur H v with|some (x,_)=>some (.d x,false)|none=>none
def DV.AV:DV->Bool
 |.b _|.i _ _|.s _|.np|.nf|.ni|.nm=>true
 |_=>false
def DV.AX:DV->Bool
 |.a cs=>cs.all DV.AV
 |x=>x.AV
def PV.AV:PV->Bool
 |.d v=>v.AX
 |_=>false
def PV.AX:PV->Bool
 |.t vs=>vs.all PV.AV
 |x=>x.AV
def qcM(H:Heap)(o:Nat):Heap:=match H.obj o with
 |some (.sl k ro es)=>H.put o (some (.sl k (max es.length ro) es))
 |_=>H
def frz(H:Heap):List Nat->Heap
 |[]=>H
 |o::r=>frz (qcM H o) r
mutual
def PV.refs:PV->List Nat
 |.r o _ _ _ _=>[o]
 |.p o _ _=>[o]
 |.a cs=>PV.AL cs
 |.t vs=>PV.AL vs
 |.f _ cs=>PV.AL cs
 |.h o=>[o]
 |.g v=>PV.refs v
 |.m _ cs=>PV.AL cs
 |.w _ v=>PV.refs v
 |_=>[]
def PV.AL:List PV->List Nat
 |[]=>[]
 |v::vs=>PV.refs v++PV.AL vs
end
mutual
def PV.ren(ρ:Nat->Option Nat):PV->PV
 |.r o k off len tt=>match ρ o with|some o'=>.r o' k off len tt|none=>.u
 |.p o i c=>match ρ o with|some o'=>.p o' i c|none=>.u
 |.a cs=>.a (PV.Bt ρ cs)
 |.t vs=>.t (PV.Bt ρ vs)
 |.f n cs=>.f n (PV.Bt ρ cs)
 |.u=>.u
 |.d v=>.d v
 |.q v k c=>.q v k c
 |.h o=>match ρ o with|some o'=>.h o'|none=>.u
 |.g v=>.g (PV.ren ρ v)
 |.m n cs=>.m n (PV.Bt ρ cs)
 |.w tt v=>.w tt (PV.ren ρ v)
def PV.Bt(ρ:Nat->Option Nat):List PV->List PV
 |[]=>[]
 |v::vs=>PV.ren ρ v::PV.Bt ρ vs
end
def Obj.refs:Obj->List Nat
 |.box _ v=>v.refs
 |_=>[]
def Obj.ren(ρ:Nat->Option Nat):Obj->Obj
 |.box k v=>.box k (v.ren ρ)
 |x=>x
def qav:Option Obj->List Nat
 |some x=>x.refs
 |none=>[]
def qap(H:Heap)(base:Nat):Nat->List Nat->List Nat->List Nat
 |0,acc,_=>acc
 |_+1,acc,[]=>acc
 |n+1,acc,o::todo=>
  if o<base then qap H base n acc todo
  else if acc.contains o then qap H base n acc todo
  else qap H base n (acc++[o]) (qav (H.obj o)++todo)
def qaG(base:Nat):List Nat->Nat->Option Nat
 |ids,o=>if o<base then some o else (ids.idxOf? o).map (base + ·)
def gcH(ρ:Nat->Option Nat)(H:Heap)(base:Nat)(ids:List Nat):Heap:=
 (H.take base).map (·.map (·.ren ρ))++ids.map λo=>(H.obj o).map (·.ren ρ)
def qam:Fr->List Nat
 |[]=>[]
 | (_,v)::r=>v.refs++qam r
def Fr.ren(ρ:Nat->Option Nat):Fr->Fr
 |[]=>[]
 | (j,v)::r=>(j,v.ren ρ)::Fr.ren ρ r
def qae:Heap->List Nat
 |[]=>[]
 |x::r=>qav x++qae r
structure St where
 fr:Fr
 H:Heap
 deriving Inhabited
def gc(live:List Nat)(base:Nat)(s:St):St:=
 let fr:=Fr.keep live s.fr
 let ids:=qap s.H base 1000 [] (qam fr++qae (s.H.take base))
 let ρ:=qaG base ids
 ⟨Fr.ren ρ fr,gcH ρ s.H base ids⟩
def gcV(base:Nat)(v:PV)(H:Heap):PV×Heap:=
 let ids:=qap H base 1000 [] (v.refs++qae (H.take base))
 let ρ:=qaG base ids
 (v.ren ρ,gcH ρ H base ids)
def fits:K->PV->Bool
 |none,v=>match v with|.a _|.d (.a _)|.t _|.u|.g _=>false|_=>true
 |some n,v=>match v with|.a cs|.d (.a cs)=>cs.length==n|_=>false
def K.eq:K->K->Bool
 |none,none=>true
 |some n,some m=>n==m
 |_,_=>false
def qch(kv:K)(v:DV)(c:Nat)(k:K):Option DV:=
 if c==0&&K.eq k kv then some v else if c+k.size<=kv.size then mkD k ((v.cells.drop c).take k.size)else none
def qcU(kv:K)(v:PV)(c:Nat)(k:K):Option PV:=
 if c==0&&K.eq k kv then some v else if c+k.size<=kv.size then mkP k ((v.cells.drop c).take k.size)else none
def putAt{α:Type}(l:List α)(c:Nat)(xs:List α):List α:=l.take c++xs++l.drop (c+xs.length)
def asI:PV->Option Int
 |.d (.i _ n)=>some n
 |_=>none
def inR(n:Int)(len:Nat):Option Nat:=if 0<=n/\n<len then some n.toNat else none
def qbp(H:Heap)(k:K):PV->Option PV
 |.p o i c=>match H.obj o with
  |some (.box kb v)=>if i==0 then qcU kb v c k else none
  |some (.sl kb _ es)=>match es[i]? with
   |some e=>match qch kb e c k with|some x=>some (.d x)|none=>none
   |none=>none
  |_=>none
 |.q v kv c=>match qch kv v c k with|some x=>some (.d x)|none=>none
 |_=>none
def qby(H:Heap)(k:K)(ptr v:PV):Option Heap:=match ptr with
 |.p o i c=>if fits k v then match H.obj o with
  |some (.box kb w)=>
   if i==0 then
    if c==0&&K.eq k kb then some (H.put o (some (.box kb v)))
    else if c+k.size<=w.cells.length then match mkP kb (putAt w.cells c v.cells)with
     |some w'=>some (H.put o (some (.box kb w')))
     |none=>none
    else none
   else none
  |some (.sl kb ro es)=>match es[i]? with
   |some e=>if ro<=i then match pur H v with
    |some (x,os)=>
     if os.contains o then none else if c==0&&K.eq k kb then some ((frz H os).put o (some (.sl kb ro (es.set i x))))
     else if c+k.size<=e.cells.length then match mkD kb (putAt e.cells c x.cells)with
      |some e'=>some ((frz H os).put o (some (.sl kb ro (es.set i e'))))
      |none=>none
     else none
    |none=>none
    else none
   |none=>none
  |_=>none
  else none
 |_=>none
def qbN(op:BinOp)(k:IntKind)(a b:Int):Option DV:=match op with
 |.add=>some (.i k (k.wrap (a+b)))
 |.sub=>some (.i k (k.wrap (a-b)))
 |.mul=>some (.i k (k.wrap (a*b)))
 |.quo=>if b=0 then none else some (.i k (k.wrap (a.tdiv b)))
 |.rem=>if b=0 then none else some (.i k (a.tmod b))
 |.and=>some (.i k (k.wrap (BitVec.ofInt k.bits a &&& BitVec.ofInt k.bits b).toNat))
 |.or=>some (.i k (k.wrap (BitVec.ofInt k.bits a |||BitVec.ofInt k.bits b).toNat))
 |.xor=>some (.i k (k.wrap (BitVec.ofInt k.bits a ^^^ BitVec.ofInt k.bits b).toNat))
 |.andNot=>some (.i k (k.wrap (BitVec.ofInt k.bits a &&& ~~~(BitVec.ofInt k.bits b)).toNat))
 |.eql=>some (.b (a==b))
 |.neq=>some (.b (a != b))
 |.lss=>some (.b (decide (a<b)))
 |.leq=>some (.b (decide (a<=b)))
 |.gtr=>some (.b (decide (a>b)))
 |.geq=>some (.b (decide (a>=b)))
 |_=>none
def qkC(op:BinOp)(x y:List UInt8):Option DV:=match op with
 |.add=>if x.length+y.length<2^62 then some (.s (x++y))else none
 |.eql=>some (.b (x==y))
 |.neq=>some (.b (!(x==y)))
 |.lss=>some (.b (Op.bytesLess x y))
 |.leq=>some (.b (Op.bytesLess x y||x==y))
 |.gtr=>some (.b (!(Op.bytesLess x y||x==y)))
 |.geq=>some (.b (!(Op.bytesLess x y)))
 |_=>none
def qjQ(op:BinOp)(k:IntKind)(a b:Int):Option DV:=
 if b<0 then none else
 let n:=min b.toNat k.bits
 match op with
 |.shl=>some (.i k (k.wrap (a*2^n)))
 |.shr=>some (.i k (a.fdiv (2^n)))
 |_=>none
def qaI(op:BinOp):PV->PV->Option DV
 |.d (.i k a),.d (.i k' b)=>match op with
  |.shl|.shr=>qjQ op k a b
  |_=>if k=k' then qbN op k a b else none
 |.d (.s x),.d (.s y)=>qkC op x y
 |_,_=>none
def eqK:Nat->DV->DV->Option Bool
 |1,.i k a,.i k' b=>if k=k' then some (a==b)else none
 |2,.b a,.b b=>some (a==b)
 |3,.s a,.s b=>some (a==b)
 |_,_,_=>none
def eqL:List Nat->List DV->List DV->Option Bool
 |[],[],[]=>some true
 |k::ks,x::xs,y::ys=>match eqK k x y,eqL ks xs ys with
  |some e,some r=>some (e&&r)
  |_,_=>none
 |_,_,_=>none
def eqA(ks:List Nat):PV->PV->Option Bool
 |.d (.a xs),.d (.a ys)=>eqL ks xs ys
 |_,_=>none
def unA(op:UnOp):PV->Option DV
 |.d (.i k n)=>match op with
  |.neg=>some (.i k (k.wrap (0-n)))
  |.xor=>some (.i k (k.wrap (BitVec.ofInt k.bits (if k.signed then -1 else k.max) ^^^ BitVec.ofInt k.bits n).toNat))
  |_=>none
 |.d (.b b)=>match op with
  |.not=>some (.b (!b))
  |_=>none
 |_=>none
def bnd(dflt top:Nat):Option PV->Option Nat
 |none=>some dflt
 |some v=>match asI v with
  |some n=>if 0<=n/\n<=top then some n.toNat else none
  |none=>none
def slA(H:Heap)(k:K)(x:PV)(lo hi mx:Option PV):Option PV:=match x with
 |.d (.l k' es t)=>
  if K.eq k k'||es.isEmpty then
  match bnd es.length es.length mx with
  |some m=>match bnd m m hi with
   |some h=>match bnd 0 h lo with
    |some l=>some (.d (.l k ((es.take h).drop l) (if mx.isSome then m==h else t&&h==es.length)))
    |none=>none
   |none=>none
  |none=>none
  else none
 |.r o k' off len t=>
  match H.obj o with
  |some (.sl _ _ es)=>
   if K.eq k k'&&decide (off+len<=es.length)then
   match bnd len len mx with
   |some m=>match bnd m m hi with
    |some h=>match bnd 0 h lo with
     |some l=>some (.r o k (off+l) (h-l) (if mx.isSome then m==h else t&&h==len))
     |none=>none
    |none=>none
   |none=>none
   else none
  |_=>none
 |_=>none
def Az(H:Heap)(k:K)(x:PV)(i:PV):Option PV:=match asI i with
 |none=>none
 |some n=>match x with
  |.d (.l k' es _)=>match inR n es.length with
   |some j=>match es[j]? with|some e=>if K.eq k k' then some (.q e k 0)else none|none=>none
   |none=>none
  |.r o k' off len _=>match inR n len,H.obj o with
   |some j,some (.sl k'' _ es)=>if K.eq k k'&&K.eq k k''&&decide (off+len<=es.length)then some (.p o (off+j) 0)else none
   |_,_=>none
  |_=>none
def qdq(off:Nat):PV->Option PV
 |.p o i c=>some (.p o i (c+off))
 |.q v k c=>some (.q v k (c+off))
 |_=>none
def qes(off:Nat)(k:K):PV->Option PV
 |.d (.a cs)=>if off+k.size<=cs.length then match mkD k ((cs.drop off).take k.size)with|some v=>some (.d v)|none=>none else none
 |.a cs=>if off+k.size<=cs.length then mkP k ((cs.drop off).take k.size)else none
 |_=>none
def bytesOf(x:List UInt8):List DV:=x.map λb=>.i .u8 b.toNat
def qa4(H:Heap)(k:K):PV->Option (List DV)
 |.d (.l k' es _)=>if K.eq k k'||es.isEmpty then some es else none
 |.r o k' off len _=>match H.obj o with
  |some (.sl k'' _ es)=>if K.eq k k'&&K.eq k k''&&decide (off+len<=es.length)then some ((es.drop off).take len)else none
  |_=>none
 |.d (.s x)=>if K.eq k none then some (bytesOf x)else none
 |_=>none
def qbU(H:Heap)(id:Nat)(k:K)(bytes:Nat)(x y:PV):Option (PV×Heap):=
 match qa4 H k y with
 |none=>none
 |some ys=>match x with
  |.d (.l k' es t)=>
   if t then
    if (es.length+ys.length)*bytes<=2^47 then
     match es with
     |[]=>some (.r id k 0 ys.length false,H.put id (some (.sl k 0 ys)))
     |e::r=>if K.eq k k' then match ys with
      |[]=>some (x,H)
      |_::_=>some (.r id k 0 ((e::r).length+ys.length) false,H.put id (some (.sl k 0 ((e::r)++ys))))
      else none
    else none
   else none
  |.r o k' off len t=>match H.obj o with
   |some (.sl k'' ro es)=>
    if K.eq k k'&&K.eq k k''&&decide (off+len<=es.length)&&decide ((len+ys.length)*bytes<=2^47)then
     if t then match ys with
      |[]=>some (x,H)
      |_::_=>some (.r id k 0 (len+ys.length) false,H.put id (some (.sl k 0 ((es.drop off).take len++ys))))
     else if ro<=off+len then
      some (.r id k 0 (len+ys.length) false,(H.put o none).put id (some (.sl k (ro-off) ((es.drop off).take len++ys))))
     else none
    else none
   |_=>none
  |_=>none
def qbS(z:List PV):List (Nat×K×PV)->Option (List PV)
 |[]=>some z
 | (off,k,v)::r=>if fits k v&&decide (off+k.size<=z.length)then qbS (putAt z off v.cells) r else none
def qbt(H:Heap)(k:K)(es:List DV):List (Nat×PV)->Option (List DV×List Nat)
 |[]=>some (es,[])
 | (j,v)::r=>if fits k v&&decide (j<es.length)then match pur H v with
  |some (x,os)=>match qbt H k (es.set j x) r with
   |some (es',ps)=>some (es',os++ps)
   |none=>none
  |none=>none
  else none
def ixB(c:Nat):List UInt8->Nat->Option Nat
 |[],_=>none
 |x::r,i=>if Nat.beq x.toNat c then some i else ixB c r (i+1)
def qeA(p:Nat)(xs:List PV):Option PV:=match p,xs with
 |0,[.d (.i .u64 x),.d (.i .u64 y),.d (.i .u64 c)]=>
  if 0<=x/\0<=y/\0<=c/\c<=1 then some (.t [.d (.i .u64 ((x+y+c)%18446744073709551616)),.d (.i .u64 ((x+y+c)/18446744073709551616))])else none
 |1,[.d (.i .u64 x),.d (.i .u64 y),.d (.i .u64 c)]=>
  if 0<=x/\0<=y/\y<18446744073709551616/\0<=c/\c<=1 then some (.t [.d (.i .u64 ((x+18446744073709551616-y-c)%18446744073709551616)),.d (.i .u64 (if x<y+c then 1 else 0))])else none
 |2,[.d (.s l),.d (.i .u8 c)]=>if 0<=c/\c<256 then some (.d (.i .i64 (match ixB c.toNat l 0 with|some i=>(i:Int)|none=>-1)))else none
 |_,_=>none
def mm2(mx:Bool):PV->PV->Option PV
 |.d (.i k x),.d (.i k' y)=>if k=k' then some (.d (.i k (if mx then (if y>x then y else x)else (if y<x then y else x))))else none
 |_,_=>none
def mmA(mx:Bool):PV->List PV->Option PV
 |v,[]=>some v
 |v,w::r=>match mm2 mx v w with|some x=>mmA mx x r|none=>none
def qbB(H:Heap)(str:Bool):PV->Option Nat
 |.d (.l _ es _)=>if str then none else some es.length
 |.r o _ off len _=>if str then none else match H.obj o with
  |some (.sl _ _ es)=>if off+len<=es.length then some len else none
  |_=>none
 |.d (.s x)=>if str then some x.length else none
 |_=>none
def qdr:Nat->PV->Option Bool
 |0,.d .ni=>some true
 |0,.d (.ifc _ _)=>some false
 |0,.d (.tok _)=>some false
 |0,.w _ _=>some false
 |1,.d .np=>some true
 |1,.p _ _ _=>some false
 |1,.q _ _ _=>some false
 |2,.d .nm=>some true
 |3,.d .nf=>some true
 |3,.f _ _=>some false
 |3,.m _ _=>some false
 |4,.d (.l _ (_::_) _)=>some false
 |_,_=>none
def qcO:DV->DV->Option Bool
 |.i k a,.i k' b=>if k=k' then some (a==b)else none
 |.s a,.s b=>some (a==b)
 |.b a,.b b=>some (a==b)
 |_,_=>none
def qdp:List DV->List DV->Option Bool
 |[],[]=>some true
 |x::xs,y::ys=>match qcO x y,qdp xs ys with
  |some e,some r=>some (e&&r)
  |_,_=>none
 |_,_=>none
def qbo:DV->DV->Option Bool
 |.a xs,.a ys=>qdp xs ys
 |x,y=>qcO x y
def qk0:Nat->DV->Bool
 |1,.i _ _=>true
 |2,.b _=>true
 |3,.s _=>true
 |_,_=>false
def qii:List Nat->List DV->Bool
 |[],[]=>true
 |k::ks,x::xs=>qk0 k x&&qii ks xs
 |_,_=>false
def qeW:Ky->DV->Bool
 |.b,.b _=>true
 |.s,.s _=>true
 |.i k,.i k' _=>k==k'
 |.st ks,.a xs=>qii ks xs
 |_,_=>false
def qce(k:DV):List (DV×DV)->Option (Option DV)
 |[]=>some none
 | (a,v)::r=>match qbo k a with
  |some true=>some (some v)
  |some false=>qce k r
  |none=>none
def qc9(k x:DV):List (DV×DV)->Option (List (DV×DV))
 |[]=>some [(k,x)]
 | (a,v)::r=>match qbo k a with
  |some true=>some ((a,x)::r)
  |some false=>match qc9 k x r with|some r'=>some ((a,v)::r')|none=>none
  |none=>none
def qxx(k:DV):List (DV×DV)->Option (List (DV×DV))
 |[]=>some []
 | (a,v)::r=>match qbo k a with
  |some true=>some r
  |some false=>match qxx k r with|some r'=>some ((a,v)::r')|none=>none
  |none=>none
def qxv:List DV->Option (List UInt8)
 |[]=>some []
 |.i .u8 n::r=>match qxv r with|some l=>some (UInt8.ofNat n.toNat::l)|none=>none
 |_::_=>none
def qAl(t:Nat):List (Nat×Nat×Nat)->Option (Nat×Nat)
 |[]=>none
 | (u,x)::r=>if u=t then some x else qAl t r
structure Env where
 G:Nat->Option (DV×K)
 ref:Nat->List PV->Heap->Option (PV×Heap)
 val:Nat->List DV->Option (PV×Bool)
 yld:Nat->List PV->Heap->Option (PV×Heap)
 it:(Nat->List PV->Heap->Option (PV×Heap))->Nat->List PV->Heap->Option (PV×Heap)
 dok:Nat->Bool
def noY:Nat->List PV->Heap->Option (PV×Heap):=λ_ _ _=>none
def rd(E:Env)(fr:Fr):Ab->PV
 |.t n=>fr.get n
 |.c v=>.d v
 |.g n=>match E.G n with|some (v,k)=>.q v k 0|none=>.u
 |.f n=>.f n []
def opt(x:Option PV)(H:Heap):Option (PV×Heap):=match x with|some v=>some (v,H)|none=>none
def qez(x:Option DV)(H:Heap):Option (PV×Heap):=match x with|some v=>some (.d v,H)|none=>none
def qaa(E:Env)(ρ:Ab->PV)(H:Heap)(id:Nat):IOp->Option (PV×Heap)
 |.mov x=>some (ρ x,H)
 |.pick c a b=>match ρ c with
  |.d (.b true)=>some (ρ a,H)
  |.d (.b false)=>some (ρ b,H)
  |_=>none
 |.alloc k z=>some (.p id 0 0,H.put id (some (.box k (.d z))))
 |.box k x=>if fits k (ρ x)then some (.p id 0 0,H.put id (some (.box k (ρ x))))else none
 |.agg z parts=>match qbS (z.map .d) (parts.map λx=>(x.1,x.2.1,ρ x.2.2))with
  |some cs=>some (mkA cs,H)
  |none=>none
 |.bsl k z len parts=>match qbt H k (List.replicate len z) (parts.map λx=>(x.1,ρ x.2))with
  |some (es,os)=>some (.r id k 0 len true,(frz H os).put id (some (.sl k 0 es)))
  |none=>none
 |.load k x=>opt (qbp H k (ρ x)) H
 |.store k x y=>match qby H k (ρ x) (ρ y)with|some H'=>some (.u,H')|none=>none
 |.bin op x y=>qez (qaI op (ρ x) (ρ y)) H
 |.eqv neg n x y=>match eqA n (ρ x) (ρ y)with
  |some e=>some (.d (.b (if neg then !e else e)),H)
  |none=>none
 |.eqb neg x y=>match ρ x,ρ y with
  |.d (.b a),.d (.b b)=>some (.d (.b (if neg then !(a==b)else a==b)),H)
  |_,_=>none
 |.BI neg kd x=>match qdr kd (ρ x)with|some b=>some (.d (.b (if neg then !b else b)),H)|none=>none
 |.un op x=>qez (unA op (ρ x)) H
 |.conv k x=>match ρ x with|.d (.i _ n)=>some (.d (.i k (k.wrap n)),H)|_=>none
 |.slS x lo hi=>match ρ x with
  |.d (.s s)=>match bnd s.length s.length (hi.map ρ)with
   |some h=>match bnd 0 h (lo.map ρ)with
    |some l=>some (.d (.s ((s.take h).drop l)),H)
    |none=>none
   |none=>none
  |_=>none
 |.sl k x lo hi mx=>opt (slA H k (ρ x) (lo.map ρ) (hi.map ρ) (mx.map ρ)) H
 |.Be off x=>opt (qdq off (ρ x)) H
 |.field off k x=>opt (qes off k (ρ x)) H
 |.Az k x i=>opt (Az H k (ρ x) (ρ i)) H
 |.BM len k x i=>match asI (ρ i)with
  |some n=>match inR n len with|some j=>opt (qdq (j*k.size) (ρ x)) H|none=>none
  |none=>none
 |.idxS x i=>match ρ x,asI (ρ i)with
  |.d (.s s),some n=>if 0<=n then match s[n.toNat]? with
   |some b=>some (.d (.i .u8 b.toNat),H)
   |none=>none
   else none
  |_,_=>none
 |.idxA len k x i=>match asI (ρ i)with
  |some n=>match inR n len with
   |some j=>opt (qes (j*k.size) k (ρ x)) H
   |none=>none
  |none=>none
 |.len str x=>match qbB H str (ρ x)with|some n=>some (.d (.i .i64 n),H)|none=>none
 |.app k bytes x y=>qbU H id k bytes (ρ x) (ρ y)
 |.call 0 f args=>match qaK H (args.map ρ)with
  |some (ds,os)=>match E.val f ds with
   |some (r,_)=>some (r,if os.isEmpty||r.AX then H else frz H os)
   |none=>none
  |none=>none
 |.call 1 f args=>match qaK H (args.map ρ)with
  |some (ds,os)=>match E.val f ds with
   |some (.d (.l k es _),true)=>some (.r id k 0 es.length false,(if os.isEmpty then H else frz H os).put id (some (.sl k 0 es)))
   |_=>none
  |none=>none
 |.call _ f args=>E.ref f (args.map ρ) H
 |.BH x args=>match ρ x with
  |.f n caps=>match (if caps.isEmpty then qaf (args.map ρ)else none)with
   |some ds=>match E.val n ds with
    |some (r,_)=>some (r,H)
    |none=>none
   |none=>E.ref n (args.map ρ++caps) H
  |.m n firsts=>match qaf (firsts++args.map ρ)with
   |some ds=>match E.val n ds with
    |some (r,_)=>some (r,H)
    |none=>none
   |none=>E.ref n (firsts++args.map ρ) H
  |.h o=>E.yld o (args.map ρ) H
  |_=>none
 |.ext x i=>match ρ x with
  |.t vs=>opt vs[i]? H
  |_=>none
 |.mkf f caps=>some (.f f (caps.map ρ),H)
 |.mkm f caps=>some (.m f (caps.map ρ),H)
 |.prim p args=>opt (qeA p (args.map ρ)) H
 |.BQ x=>match ρ x with
  |.p o i c=>some (.p o i c,H)
  |.q v k c=>some (.q v k c,H)
  |.f n cs=>some (.f n cs,H)
  |_=>none
 |.mksl k bytes z len cap=>match asI (ρ len),asI (ρ cap)with
  |some n,some c=>if 0<=n/\n<=c/\c*bytes<=2^47 then some (.r id k 0 n.toNat false,H.put id (some (.sl k 0 (List.replicate n.toNat z))))else none
  |_,_=>none
 |.minmax mx args=>match args.map ρ with
  |v::r=>opt (mmA mx v r) H
  |[]=>none
 |.copy k x y=>match ρ x with
  |.r o k' off len _=>match H.obj o,qa4 H k (ρ y)with
   |some (.sl k'' ro es),some ys=>
    if K.eq k k'&&K.eq k k''&&decide (off+len<=es.length)&&decide (ro<=off)then
     let n:=min ys.length len
     some (.d (.i .i64 n),H.put o (some (.sl k ro (putAt es off (ys.take n)))))
    else none
   |_,_=>none
  |_=>none
 |.clr k z x=>match ρ x with
  |.r o k' off len _=>match H.obj o with
   |some (.sl k'' ro es)=>
    if K.eq k k'&&K.eq k k''&&decide (off+len<=es.length)&&decide (ro<=off)then some (.t [],H.put o (some (.sl k ro (putAt es off (List.replicate len z)))))else none
   |_=>none
  |.d (.l _ [] _)=>some (.t [],H)
  |_=>none
 |.mkif t x=>match pur H (ρ x)with
  |some (v,os)=>some (.d (.ifc t v),frz H os)
  |none=>some (.w t (ρ x),H)
 |.tas t z ok x=>match ρ x with
  |.d (.ifc u v)=>if u=t then some (if ok then .t [.d v,.d (.b true)]else .d v,H)else if ok then some (.t [.d z,.d (.b false)],H)else none
  |.w u v=>if u=t then some (if ok then .t [v,.d (.b true)]else v,H)else if ok then some (.t [.d z,.d (.b false)],H)else none
  |.d .ni=>if ok then some (.t [.d z,.d (.b false)],H)else none
  |_=>none
 |.invk tab x args=>match ρ x with
  |.d (.ifc u v)=>match qAl u tab with
   |some (0,f)=>match qaK H (args.map ρ)with
    |some (ds,os)=>match E.val f (v::ds)with
     |some (r,_)=>some (r,if os.isEmpty||r.AX then H else frz H os)
     |none=>none
    |none=>none
   |some (_,f)=>E.ref f (.d v::args.map ρ) H
   |none=>none
  |_=>none
 |.Bz=>some (.h id,H.put id (some (.mp [])))
 |.mget ky z ok x i=>match ρ i,ρ x with
  |.d k,.h o=>if qeW ky k then match H.obj o with
   |some (.mp es)=>match qce k es with
    |some r=>some (if ok then .t [.d (r.getD z),.d (.b r.isSome)]else .d (r.getD z),H)
    |none=>none
   |_=>none
   else none
  |_,_=>none
 |.mset ky x i v=>match ρ i,ρ x,pur H (ρ v)with
  |.d k,.h o,some (xv,os)=>if qeW ky k then match H.obj o with
   |some (.mp es)=>match qc9 k xv es with
    |some es'=>some (.u,(frz H os).put o (some (.mp es')))
    |none=>none
   |_=>none
   else none
  |_,_,_=>none
 |.mdel ky x i=>match ρ i,ρ x with
  |.d k,.h o=>if qeW ky k then match H.obj o with
   |some (.mp es)=>match qxx k es with
    |some es'=>some (.u,H.put o (some (.mp es')))
    |none=>none
   |_=>none
   else none
  |_,_=>none
 |.mlen x=>match ρ x with
  |.h o=>match H.obj o with
   |some (.mp es)=>some (.d (.i .i64 es.length),H)
   |_=>none
  |_=>none
 |.rngS x=>match ρ x with
  |.d (.s l)=>some (.h id,H.put id (some (.si l 0)))
  |_=>none
 |.nxt x=>match ρ x with
  |.h o=>match H.obj o with
   |some (.si l pos)=>
    if pos<l.length then
     let c:=Utf8.decode ⟨l.toArray⟩ pos
     some (.t [.d (.b true),.d (.i .i64 pos),.d (.i .i32 c.1)],H.put o (some (.si l (pos+c.2))))
    else some (.t [.d (.b false)],H)
   |_=>none
  |_=>none
 |.sb x=>match ρ x with
  |.d (.s _)=>none
  |y=>match qa4 H none y with
   |some es=>match qxv es with|some l=>some (.d (.s l),H)|none=>none
   |none=>none
 |.bs x=>match ρ x with
  |.d (.s l)=>some (.d (.l none (bytesOf l) false),H)
  |_=>none
 |.dfr x y=>match ρ x,ρ y with
  |.f n caps,.u=>some (.g (.f n caps),H)
  |_,_=>none
 |.bad=>none
def IOp.adds:IOp->Bool
 |.alloc .. |.box .. |.bsl .. |.app .. |.mksl .. |.Bz|.rngS _=>true
 |.call m .. =>m==1
 |_=>false
def qaM(E:Env):List Ao->Nat->St->Option St
 |[],_,s=>some s
 |o::r,id,s=>
  let go:Option St:=match qaa E (rd E s.fr) s.H id o.op with
   |some (v,H)=>qaM E r (if o.op.adds then id+1 else id) ⟨match o.dst with|some t=>s.fr.set t v|none=>s.fr,H⟩
   |none=>none
  let no:Option St:=qaM E r (if o.op.adds then id+1 else id) ⟨match o.dst with|some t=>s.fr.set t (.t [])|none=>s.fr,s.H⟩
  match o.g with
  |none=>go
  |some (t,want)=>match s.fr.get t with
   |.d (.b b)=>if b==want then go else no
   |.t []=>no
   |_=>none
def IOp.okD(ρ:Ab->PV):IOp->Bool
 |.call m _ _=>Nat.ble m 1
 |.BH x args=>match ρ x with
  |.f _ caps=>caps.isEmpty&&(qaf (args.map ρ)).isSome
  |_=>false
 |.copy _ _ _|.clr _ _ _|.bad|.invk _ _ _|.Bz|.mset _ _ _ _|.mdel _ _ _|.rngS _|.nxt _|.bs _|.sb _|.dfr _ _|.mget _ _ _ _ _|.mlen _=>false
 |_=>true
def IOp.barr:IOp->Bool
 |.bad|.dfr _ _=>false
 |_=>true
def qal(E:Env)(ρ:Ab->PV)(H:Heap)(id:Nat)(x:IOp):Option (PV×Heap):=
 if x.okD ρ then qaa E ρ H id x else if x.barr then match qaa E ρ H id x with
  |some (v,H')=>if Nat.beq H'.length H.length then some (v,H')else none
  |none=>none
 else none
def qaE(ρ:Ab->PV):IOp->List Nat
 |.load _ x|.len _ x|.sl _ x _ _ _|.Az _ x _|.mkif _ x=>(ρ x).refs
 |.call _ _ as0=>as0.flatMap λx=>(ρ x).refs
 |.bsl _ _ _ ps=>ps.flatMap λx=>(ρ x.2).refs
 |.store _ x y=>(ρ x).refs++(ρ y).refs
 |.app _ _ x y=>(ρ x).refs++(ρ y).refs
 |_=>[]
def qa8(ρ:Ab->PV):IOp->List Nat
 |.store _ x _=>(ρ x).refs
 |.app _ _ x _=>(ρ x).refs
 |_=>[]
def Bn(E:Env)(o:Ao)(id:Nat)(s:St):Option St:=
 let go:Option St:=match qal E (rd E s.fr) s.H id o.op with
  |some (v,H)=>some ⟨match o.dst with|some t=>s.fr.set t v|none=>s.fr,H⟩
  |none=>none
 let no:Option St:=some ⟨match o.dst with|some t=>s.fr.set t (.t [])|none=>s.fr,s.H⟩
 match o.g with
 |none=>go
 |some (t,want)=>match s.fr.get t with
  |.d (.b b)=>if b==want then go else no
  |.t []=>no
  |_=>none
def runs(o:Ao)(fr:Fr):Bool:=match o.g with
 |none=>true
 |some (t,want)=>match fr.get t with
  |.d (.b b)=>b==want
  |_=>false
def qbj:Option Obj->Nat
 |some (.sl _ ro _)=>ro
 |_=>0
def chg(H H':Heap):List Nat->List Nat
 |[]=>[]
 |o::r=>if Nat.beq (qbj (H.obj o)) (qbj (H'.obj o))then chg H H' r else o::chg H H' r
mutual
def DV.same:DV->DV->Bool
 |.b x,.b y=>x==y
 |.i k n,.i k' m=>decide (k=k')&&decide (n=m)
 |.s x,.s y=>x==y
 |.a cs,.a ds=>DV.Bw cs ds
 |.l k es t,.l k' fs t'=>K.eq k k'&&(t==t')&&DV.Bw es fs
 |.np,.np=>true
 |.nf,.nf=>true
 |.ni,.ni=>true
 |.nm,.nm=>true
 |.ifc t v,.ifc t' w=>Nat.beq t t'&&DV.same v w
 |.tok n,.tok m=>Nat.beq n m
 |_,_=>false
def DV.Bw:List DV->List DV->Bool
 |[],[]=>true
 |x::xs,y::ys=>DV.same x y&&DV.Bw xs ys
 |_,_=>false
end
mutual
def PV.same:PV->PV->Bool
 |.u,.u=>true
 |.d v,.d v'=>v.same v'
 |.a cs,.a ds=>PV.Bw cs ds
 |.t cs,.t ds=>PV.Bw cs ds
 |.r o k off len tt,.r o' k' off' len' tt'=>Nat.beq o o'&&K.eq k k'&&Nat.beq off off'&&Nat.beq len len'&&(tt==tt')
 |.p o i c,.p o' i' c'=>Nat.beq o o'&&Nat.beq i i'&&Nat.beq c c'
 |.q v k c,.q v' k' c'=>v.same v'&&K.eq k k'&&Nat.beq c c'
 |.f n cs,.f n' ds=>Nat.beq n n'&&PV.Bw cs ds
 |.h o,.h o'=>Nat.beq o o'
 |.m n cs,.m n' ds=>Nat.beq n n'&&PV.Bw cs ds
 |.w n v,.w n' v'=>Nat.beq n n'&&PV.same v v'
 |_,_=>false
def PV.Bw:List PV->List PV->Bool
 |[],[]=>true
 |x::xs,y::ys=>PV.same x y&&PV.Bw xs ys
 |_,_=>false
end
def qk9:Option Obj->Option Obj->Bool
 |none,none=>true
 |some (.box k v),some (.box k' v')=>K.eq k k'&&v.same v'
 |some (.sl k ro es),some (.sl k' ro' es')=>K.eq k k'&&Nat.beq ro ro'&&DV.Bw es es'
 |some (.si s n),some (.si s' n')=>Nat.beq n n'&&s==s'
 |some .df,some .df=>true
 |_,_=>false
def qm6(H H':Heap):List Nat->List Nat
 |[]=>[]
 |o::r=>if qk9 (H.obj o) (H'.obj o)then qm6 H H' r else o::qm6 H H' r
def AA(E:Env)(o:Ao)(id:Nat)(s s':St):List Nat:=if runs o s.fr then (if o.op.adds then [id]else [])++(if o.op.okD (rd E s.fr)then qa8 (rd E s.fr) o.op++chg s.H s'.H (qaE (rd E s.fr) o.op)else qm6 s.H s'.H (List.range s.H.length))else []
def AP(E:Env)(o:Ao)(s:St):List Nat:=if runs o s.fr then (if o.op.okD (rd E s.fr)then qaE (rd E s.fr) o.op else List.range s.H.length)else []
def qbg(a b:List Nat):Bool:=a.all λx=>!b.contains x
def qa6(b:Nat):Nat->List (List Nat×List Nat)->List Nat->List Nat->Bool
 |_,[],_,_=>true
 |i,x::r,t,w=>(b.testBit i||(qbg x.2 t&&qbg w x.1))&&qa6 b (i+1) r t w
def qbu(E:Env):List Ao->List Nat->List (List Nat×List Nat)->Nat->St->Option St
 |[],_,_,_,s=>some s
 |o::r,bf,acc,id,s=>match Bn E o id s with
  |some s'=>if qa6 (bf.headD 0) 0 acc (AA E o id s s'++AP E o s) (AA E o id s s')then qbu E r bf.tail (acc++[(AA E o id s s'++AP E o s,AA E o id s s')]) (if o.op.adds then id+1 else id) s' else none
  |none=>none
def qao:List Ao->Nat
 |[]=>0
 |o::r=>(if o.op.adds then 1 else 0)+qao r
abbrev Res:=Option (Ex×St)
def qcu(E:Env)(ops:List Ao)(kill:List Nat)(s:St):Option St:=
 match qaM E ops s.H.length ⟨s.fr,s.H++List.replicate (qao ops) none⟩with
 |some s'=>some ⟨s'.fr.drop kill,s'.H⟩
 |none=>none
def qc4(E:Env)(ops:List Ao)(bf:List Nat)(kill:List Nat)(s:St):Option St:=
 match qbu E ops bf [] s.H.length ⟨s.fr,s.H++List.replicate (qao ops) none⟩with
 |some s'=>some ⟨s'.fr.drop kill,s'.H⟩
 |none=>none
def isN:Ex->Bool
 |.norm=>true
 |_=>false
def qdx(fr:Fr):List Nat->List PV->Fr
 |p::ps,v::vs=>qdx (fr.set p v) ps vs
 |_,_=>fr
def qda(evA evX:Nat->St->Res)(fr:Fr)(o:Nat)(ps:List Nat)(yld:Nat->List PV->Heap->Option (PV×Heap))(o':Nat)(args:List PV)(H:Heap):Option (PV×Heap):=
 if o'=o then
  if args.length=ps.length then
   match H.obj o with
   |some (.lp 0 none)=>
    match evA H.length ⟨qdx fr ps args,H⟩with
    |some (.norm,s1)=>match s1.H.obj o with
     |some (.lp 0 none)=>match evX H.length ⟨s1.fr,s1.H.put o (some (.lp 2 none))⟩with
      |some (e,s2)=>match s2.H.obj o with
       |some (.lp 2 none)=>some (gcV H.length (.d (.b (isN e))) (s2.H.put o (some (if isN e then .lp 0 none else .lp 1 (some e)))))
       |_=>none
      |none=>none
     |_=>none
    |_=>none
   |_=>none
  else none
 else yld o' args H
def qah(E:Env)(lp:(St->Res)->St->Res)(base:Nat):PC->St->Res
 |.skip,s=>some (.norm,s)
 |.reg ops kill,s=>match qcu E ops kill s with|some s'=>some (.norm,s')|none=>none
 |.A7 ops bf kill,s=>match qc4 E ops bf kill s with|some s'=>some (.norm,s')|none=>none
 |.seq a b,s=>match qah E lp base a s with
  |some (.norm,s')=>qah E lp base b s'
  |r=>r
 |.cond c x y,s=>match rd E s.fr c with
  |.d (.b true)=>qah E lp base x s
  |.d (.b false)=>qah E lp base y s
  |_=>none
 |.block id x,s=>match qah E lp base x s with
  |some (.exit j,s')=>if j==id then some (.norm,s')else some (.exit j,s')
  |r=>r
 |.loop live x,s=>lp (λs=>qah E lp base x (gc live base s)) s
 |.rng f g ps live a x,s=>match rd E s.fr f,s.fr.get g with
  |.f n caps,.u=>
   let o:=s.H.length
   match E.it (qda (λb s=>qah E lp b a s) (λb s=>qah E lp b x s) (Fr.only live s.fr) o ps E.yld) n (.h o::caps) (s.H++[some (.lp 0 none),some .df])with
   |some (_,H')=>match H'.obj o with
    |some (.lp 0 none)=>some (.norm,⟨s.fr.set g (.g (.h (o+1))),H'.put o none⟩)
    |some (.lp 1 (some e))=>some (e,⟨s.fr.set g (.g (.h (o+1))),H'.put o none⟩)
    |_=>none
   |none=>none
  |_,_=>none
 |.exit id,s=>some (.exit id,s)
 |.ret,s=>some (.ret,s)
 |.bad,_=>none
def results(fr:Fr)(H:Heap):List RV->Option (List PV)
 |[]=>some []
 |.t n::r=>match results fr H r with|some vs=>some (fr.get n::vs)|none=>none
 |.c n k::r=>match qbp H k (fr.get n),results fr H r with
  |some v,some vs=>some (v::vs)
  |_,_=>none
def qa5:List PV->PV
 |[v]=>v
 |vs=>.t vs
def qan:Fr->List PV
 |[]=>[]
 | (j,v)::r=>if Nat.ble gh j then v::qan r else qan r
def Bo(E:Env)(gs:List PV)(H:Heap):Option Heap:=match gs with
 |[]=>some H
 |[.g (.h o)]=>match H.obj o with
  |some .df=>some (H.put o none)
  |_=>none
 |[.g (.f n caps)]=>if E.dok n then match E.ref n caps H with
  |some (_,H')=>some H'
  |none=>none
  else none
 |_=>none
def qbb(E:Env)(lp:(St->Res)->St->Res)(F:PF)(args:List PV)(H:Heap):Option (PV×Heap):=
 if args.length=F.Bp then
  match qah E lp H.length F.body ⟨Fr.Aa 0 args,H⟩with
  |some (.norm,s)|some (.ret,s)=>match Bo E (qan s.fr) s.H with
   |some H'=>match results s.fr H' F.results with
    |some vs=>some (qa5 vs,H')
    |none=>none
   |none=>none
  |_=>none
 else none
def lpN:Nat->(St->Res)->St->Res
 |0,_,_=>none
 |n+1,f,s=>match f s with
  |some (.norm,s')=>lpN n f s'
  |r=>r
structure Tab where
 F:Nat->Option PF
 X:Nat->List DV->Option (PV×Bool)
 R:Nat->List PV->Heap->Option (PV×Heap)
 G:Nat->Option (DV×K)
def Tab.dok(T:Tab)(f:Nat):Bool:=(T.F f).isSome
mutual
def itN(T:Tab):Nat->(Nat->List PV->Heap->Option (PV×Heap))->Nat->List PV->Heap->Option (PV×Heap)
 |0,_,_,_,_=>none
 |n+1,Y,f,args,H=>match T.F f with
  |some F=>match qbb ⟨T.G,itN T n noY,qcF T n,Y,itN T n,T.dok⟩ (lpN n) F args H with
   |some (v,H')=>some (gcV H.length v H')
   |none=>none
  |none=>T.R f args H
def qcF(T:Tab):Nat->Nat->List DV->Option (PV×Bool)
 |0,_,_=>none
 |n+1,f,args=>match T.F f with
  |some F=>match qbb ⟨T.G,itN T n noY,qcF T n,noY,itN T n,T.dok⟩ (lpN n) F (args.map .d) []with
   |some (v,H')=>AJ H' v
   |none=>none
  |none=>T.X f args
end
def qhs(T:Tab)(n:Nat):Nat->List PV->Heap->Option (PV×Heap):=itN T n noY
def Ab.uses:Ab->List Nat|.t n=>[n]|_=>[]
def qjX:Option Ab->List Nat|some r=>r.uses|none=>[]
def qci(l:List Ab):List Nat:=l.flatMap Ab.uses
def IOp.uses:IOp->List Nat
 |.mov x|.clr _ _ x|.mkif _ x|.tas _ _ _ x|.mlen x|.rngS x|.nxt x|.sb x|.bs x|.box _ x|.load _ x|.BI _ _ x|.un _ x|.conv _ x|.Be _ x|.field _ _ x|.len _ x|.ext x _|.BQ x=>x.uses
 |.pick c a b=>c.uses++a.uses++b.uses
 |.alloc _ _|.Bz|.bad=>[]
 |.mget _ _ _ x i|.mdel _ x i|.dfr x i=>x.uses++i.uses
 |.mset _ x i v=>x.uses++i.uses++v.uses
 |.invk _ x as0=>x.uses++qci as0
 |.agg _ ps=>ps.flatMap λx=>x.2.2.uses
 |.bsl _ _ _ ps=>ps.flatMap λx=>x.2.uses
 |.store _ x y|.bin _ x y|.eqv _ _ x y|.eqb _ x y|.Az _ x y|.BM _ _ x y|.idxS x y|.idxA _ _ x y|.app _ _ x y|.mksl _ _ _ x y|.copy _ x y=>x.uses++y.uses
 |.slS x a b=>x.uses++qjX a++qjX b
 |.sl _ x a b c=>x.uses++qjX a++qjX b++qjX c
 |.call _ _ as0|.mkf _ as0|.mkm _ as0|.prim _ as0|.minmax _ as0=>qci as0
 |.BH x as0=>x.uses++qci as0
def Ao.uses(o:Ao):List Nat:=o.op.uses++(match o.g with|some (t,_)=>[t]|none=>[])
def qmU(x y:Ao):Bool:=
 (match x.dst with|some d=>!(y.uses.contains d) && !(y.dst==some d)|none=>true) &&
 (match y.dst with|some d=>!(x.uses.contains d)|none=>true)
abbrev Ct:=List DV
abbrev Cu:=List PV
abbrev Cv:=List UInt8
abbrev Cw:=List Int
abbrev Cy:=List Nat
abbrev Cz:=Option (PV×Bool)
abbrev CB:=Option (PV×Heap)
abbrev CE:=@Option
abbrev CF:=@List
abbrev CG:=Bool
abbrev CJ:=Value
abbrev CK:=TypeId
abbrev CL:=World
abbrev CO:=Program
abbrev CP:=Heap
