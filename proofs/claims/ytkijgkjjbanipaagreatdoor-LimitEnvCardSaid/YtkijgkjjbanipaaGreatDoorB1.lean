/- Part 1 of the proof: CbSimA. -/
import Derived.Control
set_option linter.all false
namespace Go.Sim
abbrev K := Option Nat
inductive DV where
 | b (x : Bool)
 | i (k : IntKind) (n : Int)
 | s (x : List UInt8)
 | a (cs : List DV)
 | l (k : K) (es : List DV) (tight : Bool)
 | np
 | nf
 | ni
 | nm
 | ifc (t : Nat) (v : DV)
 | tok (n : Nat)
 deriving Inhabited
inductive PV where
 | u
 | d (v : DV)
 | a (cs : List PV)
 | t (vs : List PV)
 | r (o : Nat) (k : K) (off len : Nat) (tight : Bool)
 | p (o i c : Nat)
 | q (v : DV) (k : K) (c : Nat)
 | f (fn : Nat) (caps : List PV)
 | h (o : Nat)
 | g (v : PV)
 | m (fn : Nat) (firsts : List PV)
 | w (t : Nat) (v : PV)
 deriving Inhabited
inductive Rand where
 | t (n : Nat)
 | c (v : DV)
 | g (n : Nat)
 | f (n : Nat)
 deriving Inhabited
inductive Ex where
 | norm
 | exit (id : Nat)
 | ret
 deriving Inhabited
inductive Obj where
 | box (k : K) (v : PV)
 | sl (k : K) (ro : Nat) (es : List DV)
 | mp (es : List (DV × DV))
 | si (s : List UInt8) (pos : Nat)
 | lp (st : Nat) (j : Option Ex)
 | df
 deriving Inhabited
abbrev Heap := List (Option Obj)
abbrev Fr := List (Nat × PV)
inductive Ky where
 | b
 | s
 | i (k : IntKind)
 deriving Inhabited
inductive IOp where
 | mov (x : Rand)
 | pick (c a b : Rand)
 | alloc (k : K) (z : DV)
 | box (k : K) (x : Rand)
 | agg (z : List DV) (parts : List (Nat × K × Rand))
 | bsl (k : K) (z : DV) (len : Nat) (parts : List (Nat × Rand))
 | load (k : K) (x : Rand)
 | store (k : K) (x y : Rand)
 | bin (op : BinOp) (x y : Rand)
 | eqv (neg : Bool) (ks : List Nat) (x y : Rand)
 | eqb (neg : Bool) (x y : Rand)
 | isnil (neg : Bool) (kd : Nat) (x : Rand)
 | un (op : UnOp) (x : Rand)
 | conv (k : IntKind) (x : Rand)
 | slS (x : Rand) (lo hi : Option Rand)
 | sl (k : K) (x : Rand) (lo hi mx : Option Rand)
 | faddr (off : Nat) (x : Rand)
 | field (off : Nat) (k : K) (x : Rand)
 | iaddr (k : K) (x i : Rand)
 | iaddrA (len : Nat) (k : K) (x i : Rand)
 | idxS (x i : Rand)
 | idxA (len : Nat) (k : K) (x i : Rand)
 | len (str : Bool) (x : Rand)
 | app (k : K) (bytes : Nat) (x y : Rand)
 | call (mode : Nat) (f : Nat) (args : List Rand)
 | callv (x : Rand) (args : List Rand)
 | ext (x : Rand) (i : Nat)
 | mkf (f : Nat) (caps : List Rand)
 | mkm (f : Nat) (caps : List Rand)
 | prim (p : Nat) (args : List Rand)
 | nilck (x : Rand)
 | mksl (k : K) (bytes : Nat) (z : DV) (len cap : Rand)
 | minmax (mx : Bool) (args : List Rand)
 | copy (k : K) (x y : Rand)
 | clr (k : K) (z : DV) (x : Rand)
 | mkif (t : Nat) (x : Rand)
 | tas (t : Nat) (z : DV) (ok : Bool) (x : Rand)
 | invk (tab : List (Nat × Nat × Nat)) (x : Rand) (args : List Rand)
 | mkmap
 | mget (ky : Ky) (z : DV) (ok : Bool) (x i : Rand)
 | mset (ky : Ky) (x i v : Rand)
 | mdel (ky : Ky) (x i : Rand)
 | mlen (x : Rand)
 | rngS (x : Rand)
 | nxt (x : Rand)
 | sb (x : Rand)
 | bs (x : Rand)
 | dfr (x y : Rand)
 | bad
 deriving Inhabited
structure IOper where
 dst : Option Nat
 op : IOp
 g : Option (Nat × Bool)
 deriving Inhabited
inductive PC where
 | skip
 | reg (ops : List IOper) (kill : List Nat)
 | regD (ops : List IOper) (bf : List Nat) (kill : List Nat)
 | seq (a b : PC)
 | cond (c : Rand) (x y : PC)
 | block (id : Nat) (x : PC)
 | loop (live : List Nat) (x : PC)
 | rng (f : Rand) (g : Nat) (ps : List Nat) (live : List Nat) (a x : PC)
 | exit (id : Nat)
 | ret
 | bad
 deriving Inhabited
inductive RV where
 | t (n : Nat)
 | c (n : Nat) (k : K)
 deriving Inhabited
structure PF where
 nargs : Nat
 results : List RV
 body : PC
 deriving Inhabited
def DV.cells : DV → List DV
 | .a cs => cs
 | v => [v]
def K.size : K → Nat
 | none => 1
 | some n => n
def PV.cells : PV → List PV
 | .a cs => cs
 | .d (.a cs) => cs.map .d
 | v => [v]
def plains : List PV → Option (List DV)
 | [] => some []
 | .d v :: r => match plains r with | some vs => some (v :: vs) | none => none
 | _ :: _ => none
def mkA (cs : List PV) : PV := match plains cs with | some vs => .d (.a vs) | none => .a cs
def mkP (k : K) (cs : List PV) : Option PV := match k with
 | none => match cs with | [v] => some v | _ => none
 | some n => if cs.length = n then some (mkA cs) else none
def mkD (k : K) (cs : List DV) : Option DV := match k with
 | none => match cs with | [v] => some v | _ => none
 | some n => if cs.length = n then some (.a cs) else none
def Fr.get : Fr → Nat → PV
 | [], _ => .u
 | (j, v) :: r, t => if j = t then v else Fr.get r t
def Fr.set : Fr → Nat → PV → Fr
 | [], t, v => [(t, v)]
 | (j, x) :: r, t, v => if j = t then (t, v) :: r else if j < t then (t, v) :: (j, x) :: r else (j, x) :: Fr.set r t v
def gh : Nat := 100000
def Fr.keep (l : List Nat) : Fr → Fr
 | [] => []
 | (j, v) :: r => if l.contains j || Nat.ble gh j then (j, v) :: Fr.keep l r else Fr.keep l r
def Fr.only (l : List Nat) : Fr → Fr
 | [] => []
 | (j, v) :: r => if l.contains j && Nat.blt j gh then (j, v) :: Fr.only l r else Fr.only l r
def Fr.drop (l : List Nat) : Fr → Fr
 | [] => []
 | (j, v) :: r => if l.contains j && Nat.blt j gh then Fr.drop l r else (j, v) :: Fr.drop l r
def Fr.ofArgs : Nat → List PV → Fr
 | _, [] => []
 | j, v :: r => Fr.ofArgs (j + 1) r ++ [(j, v)]
def Heap.obj (H : Heap) (o : Nat) : Option Obj := match H[o]? with | some x => x | none => none
def Heap.put (H : Heap) (o : Nat) (x : Option Obj) : Heap := H.set o x
def purC (H : Heap) : PV → Option (DV × List Nat)
 | .d x => some (x, [])
 | .r o k off len _ => match H.obj o with
  | some (.sl k' _ es) => if k' = k ∧ off + len ≤ es.length then some (.l k ((es.drop off).take len) false, [o]) else none
  | _ => none
 | _ => none
def purL (H : Heap) : List PV → Option (List DV × List Nat)
 | [] => some ([], [])
 | v :: r => match purC H v, purL H r with
  | some (x, os), some (xs, ps) => some (x :: xs, os ++ ps)
  | _, _ => none
def pur (H : Heap) : PV → Option (DV × List Nat)
 | .a cs => match purL H cs with | some (xs, os) => some (.a xs, os) | none => none
 | v => purC H v
def purs (H : Heap) : List PV → Option (List DV × List Nat)
 | [] => some ([], [])
 | v :: r => match pur H v, purs H r with
  | some (x, os), some (xs, ps) => some (x :: xs, os ++ ps)
  | _, _ => none
def purT (H : Heap) : PV → Option (PV × Bool)
 | .t vs => match purs H vs with | some (xs, _) => some (.t (xs.map .d), false) | none => none
 | .r o k off len _ => match H.obj o with
  | some (.sl k' ro es) => if k' = k ∧ off + len ≤ es.length then some (.d (.l k ((es.drop off).take len) false), decide (ro ≤ off)) else none
  | _ => none
 | .d (.l k es true) => some (.d (.l k es false), es.isEmpty)
 | v => match pur H v with | some (x, _) => some (.d x, false) | none => none
def DV.scal1 : DV → Bool
 | .b _ | .i _ _ | .s _ | .np | .nf | .ni | .nm => true
 | _ => false
def DV.scal : DV → Bool
 | .a cs => cs.all DV.scal1
 | x => x.scal1
def PV.scal1 : PV → Bool
 | .d v => v.scal
 | _ => false
def PV.scal : PV → Bool
 | .t vs => vs.all PV.scal1
 | x => x.scal1
def frz1 (H : Heap) (o : Nat) : Heap := match H.obj o with
 | some (.sl k ro es) => H.put o (some (.sl k (max es.length ro) es))
 | _ => H
def frz (H : Heap) : List Nat → Heap
 | [] => H
 | o :: r => frz (frz1 H o) r
mutual
def PV.refs : PV → List Nat
 | .r o _ _ _ _ => [o]
 | .p o _ _ => [o]
 | .a cs => PV.refsL cs
 | .t vs => PV.refsL vs
 | .f _ cs => PV.refsL cs
 | .h o => [o]
 | .g v => PV.refs v
 | .m _ cs => PV.refsL cs
 | .w _ v => PV.refs v
 | _ => []
def PV.refsL : List PV → List Nat
 | [] => []
 | v :: vs => PV.refs v ++ PV.refsL vs
end
mutual
def PV.ren (ρ : Nat → Option Nat) : PV → PV
 | .r o k off len tt => match ρ o with | some o' => .r o' k off len tt | none => .u
 | .p o i c => match ρ o with | some o' => .p o' i c | none => .u
 | .a cs => .a (PV.renL ρ cs)
 | .t vs => .t (PV.renL ρ vs)
 | .f n cs => .f n (PV.renL ρ cs)
 | .u => .u
 | .d v => .d v
 | .q v k c => .q v k c
 | .h o => match ρ o with | some o' => .h o' | none => .u
 | .g v => .g (PV.ren ρ v)
 | .m n cs => .m n (PV.renL ρ cs)
 | .w tt v => .w tt (PV.ren ρ v)
def PV.renL (ρ : Nat → Option Nat) : List PV → List PV
 | [] => []
 | v :: vs => PV.ren ρ v :: PV.renL ρ vs
end
def Obj.refs : Obj → List Nat
 | .box _ v => v.refs
 | _ => []
def Obj.ren (ρ : Nat → Option Nat) : Obj → Obj
 | .box k v => .box k (v.ren ρ)
 | x => x
def orefs : Option Obj → List Nat
 | some x => x.refs
 | none => []
def reach (H : Heap) (base : Nat) : Nat → List Nat → List Nat → List Nat
 | 0, acc, _ => acc
 | _ + 1, acc, [] => acc
 | n + 1, acc, o :: todo =>
  if o < base then reach H base n acc todo
  else if acc.contains o then reach H base n acc todo
  else reach H base n (acc ++ [o]) (orefs (H.obj o) ++ todo)
def place (base : Nat) : List Nat → Nat → Option Nat
 | ids, o => if o < base then some o else (ids.idxOf? o).map (base + ·)
def gcH (ρ : Nat → Option Nat) (H : Heap) (base : Nat) (ids : List Nat) : Heap :=
 (H.take base).map (·.map (·.ren ρ)) ++ ids.map fun o => (H.obj o).map (·.ren ρ)
def frRefs : Fr → List Nat
 | [] => []
 | (_, v) :: r => v.refs ++ frRefs r
def Fr.ren (ρ : Nat → Option Nat) : Fr → Fr
 | [] => []
 | (j, v) :: r => (j, v.ren ρ) :: Fr.ren ρ r
def heapRefs : Heap → List Nat
 | [] => []
 | x :: r => orefs x ++ heapRefs r
structure St where
 fr : Fr
 H : Heap
 deriving Inhabited
def gc (live : List Nat) (base : Nat) (s : St) : St :=
 let fr := Fr.keep live s.fr
 let ids := reach s.H base 1000 [] (frRefs fr ++ heapRefs (s.H.take base))
 let ρ := place base ids
 ⟨Fr.ren ρ fr, gcH ρ s.H base ids⟩
def gcV (base : Nat) (v : PV) (H : Heap) : PV × Heap :=
 let ids := reach H base 1000 [] (v.refs ++ heapRefs (H.take base))
 let ρ := place base ids
 (v.ren ρ, gcH ρ H base ids)
def fits : K → PV → Bool
 | none, v => match v with | .a _ | .d (.a _) | .t _ | .u | .g _ => false | _ => true
 | some n, v => match v with | .a cs | .d (.a cs) => cs.length == n | _ => false
def K.eq : K → K → Bool
 | none, none => true
 | some n, some m => n == m
 | _, _ => false
def subD (kv : K) (v : DV) (c : Nat) (k : K) : Option DV :=
 if c == 0 && K.eq k kv then some v else if c + k.size ≤ kv.size then mkD k ((v.cells.drop c).take k.size) else none
def subP (kv : K) (v : PV) (c : Nat) (k : K) : Option PV :=
 if c == 0 && K.eq k kv then some v else if c + k.size ≤ kv.size then mkP k ((v.cells.drop c).take k.size) else none
def putAt {α : Type} (l : List α) (c : Nat) (xs : List α) : List α := l.take c ++ xs ++ l.drop (c + xs.length)
def asI : PV → Option Int
 | .d (.i _ n) => some n
 | _ => none
def inR (n : Int) (len : Nat) : Option Nat := if 0 ≤ n ∧ n < len then some n.toNat else none
def loadA (H : Heap) (k : K) : PV → Option PV
 | .p o i c => match H.obj o with
  | some (.box kb v) => if i == 0 then subP kb v c k else none
  | some (.sl kb _ es) => match es[i]? with
   | some e => match subD kb e c k with | some x => some (.d x) | none => none
   | none => none
  | _ => none
 | .q v kv c => match subD kv v c k with | some x => some (.d x) | none => none
 | _ => none
def storeA (H : Heap) (k : K) (ptr v : PV) : Option Heap := match ptr with
 | .p o i c => if fits k v then match H.obj o with
  | some (.box kb w) =>
   if i == 0 then
    if c == 0 && K.eq k kb then some (H.put o (some (.box kb v)))
    else if c + k.size ≤ w.cells.length then match mkP kb (putAt w.cells c v.cells) with
     | some w' => some (H.put o (some (.box kb w')))
     | none => none
    else none
   else none
  | some (.sl kb ro es) => match es[i]? with
   | some e => if ro ≤ i then match pur H v with
    | some (x, os) =>
     if os.contains o then none else if c == 0 && K.eq k kb then some ((frz H os).put o (some (.sl kb ro (es.set i x))))
     else if c + k.size ≤ e.cells.length then match mkD kb (putAt e.cells c x.cells) with
      | some e' => some ((frz H os).put o (some (.sl kb ro (es.set i e'))))
      | none => none
     else none
    | none => none
    else none
   | none => none
  | _ => none
  else none
 | _ => none
def binI (op : BinOp) (k : IntKind) (a b : Int) : Option DV := match op with
 | .add => some (.i k (k.wrap (a + b)))
 | .sub => some (.i k (k.wrap (a - b)))
 | .mul => some (.i k (k.wrap (a * b)))
 | .quo => if b = 0 then none else some (.i k (k.wrap (a.tdiv b)))
 | .rem => if b = 0 then none else some (.i k (a.tmod b))
 | .and => some (.i k (k.wrap (BitVec.ofInt k.bits a &&& BitVec.ofInt k.bits b).toNat))
 | .or => some (.i k (k.wrap (BitVec.ofInt k.bits a ||| BitVec.ofInt k.bits b).toNat))
 | .xor => some (.i k (k.wrap (BitVec.ofInt k.bits a ^^^ BitVec.ofInt k.bits b).toNat))
 | .andNot => some (.i k (k.wrap (BitVec.ofInt k.bits a &&& ~~~(BitVec.ofInt k.bits b)).toNat))
 | .eql => some (.b (a == b))
 | .neq => some (.b (a != b))
 | .lss => some (.b (decide (a < b)))
 | .leq => some (.b (decide (a ≤ b)))
 | .gtr => some (.b (decide (a > b)))
 | .geq => some (.b (decide (a ≥ b)))
 | _ => none
def binS (op : BinOp) (x y : List UInt8) : Option DV := match op with
 | .add => if x.length + y.length < 2 ^ 62 then some (.s (x ++ y)) else none
 | .eql => some (.b (x == y))
 | .neq => some (.b (!(x == y)))
 | .lss => some (.b (Op.bytesLess x y))
 | .leq => some (.b (Op.bytesLess x y || x == y))
 | .gtr => some (.b (!(Op.bytesLess x y || x == y)))
 | .geq => some (.b (!(Op.bytesLess x y)))
 | _ => none
def shiftI (op : BinOp) (k : IntKind) (a b : Int) : Option DV :=
 if b < 0 then none else
 let n := min b.toNat k.bits
 match op with
 | .shl => some (.i k (k.wrap (a * 2 ^ n)))
 | .shr => some (.i k (a.fdiv (2 ^ n)))
 | _ => none
def binA (op : BinOp) : PV → PV → Option DV
 | .d (.i k a), .d (.i k' b) => match op with
  | .shl | .shr => shiftI op k a b
  | _ => if k = k' then binI op k a b else none
 | .d (.s x), .d (.s y) => binS op x y
 | _, _ => none
def eqK : Nat → DV → DV → Option Bool
 | 1, .i k a, .i k' b => if k = k' then some (a == b) else none
 | 2, .b a, .b b => some (a == b)
 | 3, .s a, .s b => some (a == b)
 | _, _, _ => none
def eqL : List Nat → List DV → List DV → Option Bool
 | [], [], [] => some true
 | k :: ks, x :: xs, y :: ys => match eqK k x y, eqL ks xs ys with
  | some e, some r => some (e && r)
  | _, _ => none
 | _, _, _ => none
def eqA (ks : List Nat) : PV → PV → Option Bool
 | .d (.a xs), .d (.a ys) => eqL ks xs ys
 | _, _ => none
def unA (op : UnOp) : PV → Option DV
 | .d (.i k n) => match op with
  | .neg => some (.i k (k.wrap (0 - n)))
  | .xor => some (.i k (k.wrap (BitVec.ofInt k.bits (if k.signed then -1 else k.max) ^^^ BitVec.ofInt k.bits n).toNat))
  | _ => none
 | .d (.b b) => match op with
  | .not => some (.b (!b))
  | _ => none
 | _ => none
def bnd (dflt top : Nat) : Option PV → Option Nat
 | none => some dflt
 | some v => match asI v with
  | some n => if 0 ≤ n ∧ n ≤ top then some n.toNat else none
  | none => none
def slA (H : Heap) (k : K) (x : PV) (lo hi mx : Option PV) : Option PV := match x with
 | .d (.l k' es t) =>
  if K.eq k k' || es.isEmpty then
  match bnd es.length es.length mx with
  | some m => match bnd m m hi with
   | some h => match bnd 0 h lo with
    | some l => some (.d (.l k ((es.take h).drop l) (if mx.isSome then m == h else t && h == es.length)))
    | none => none
   | none => none
  | none => none
  else none
 | .r o k' off len t =>
  match H.obj o with
  | some (.sl _ _ es) =>
   if K.eq k k' && decide (off + len ≤ es.length) then
   match bnd len len mx with
   | some m => match bnd m m hi with
    | some h => match bnd 0 h lo with
     | some l => some (.r o k (off + l) (h - l) (if mx.isSome then m == h else t && h == len))
     | none => none
    | none => none
   | none => none
   else none
  | _ => none
 | _ => none
def iaddr (H : Heap) (k : K) (x : PV) (i : PV) : Option PV := match asI i with
 | none => none
 | some n => match x with
  | .d (.l k' es _) => match inR n es.length with
   | some j => match es[j]? with | some e => if K.eq k k' then some (.q e k 0) else none | none => none
   | none => none
  | .r o k' off len _ => match inR n len, H.obj o with
   | some j, some (.sl k'' _ es) => if K.eq k k' && K.eq k k'' && decide (off + len ≤ es.length) then some (.p o (off + j) 0) else none
   | _, _ => none
  | _ => none
def moveA (off : Nat) : PV → Option PV
 | .p o i c => some (.p o i (c + off))
 | .q v k c => some (.q v k (c + off))
 | _ => none
def fieldA (off : Nat) (k : K) : PV → Option PV
 | .d (.a cs) => if off + k.size ≤ cs.length then match mkD k ((cs.drop off).take k.size) with | some v => some (.d v) | none => none else none
 | .a cs => if off + k.size ≤ cs.length then mkP k ((cs.drop off).take k.size) else none
 | _ => none
def bytesOf (x : List UInt8) : List DV := x.map fun b => .i .u8 b.toNat
def elemsA (H : Heap) (k : K) : PV → Option (List DV)
 | .d (.l k' es _) => if K.eq k k' || es.isEmpty then some es else none
 | .r o k' off len _ => match H.obj o with
  | some (.sl k'' _ es) => if K.eq k k' && K.eq k k'' && decide (off + len ≤ es.length) then some ((es.drop off).take len) else none
  | _ => none
 | .d (.s x) => if K.eq k none then some (bytesOf x) else none
 | _ => none
def appA (H : Heap) (id : Nat) (k : K) (bytes : Nat) (x y : PV) : Option (PV × Heap) :=
 match elemsA H k y with
 | none => none
 | some ys => match x with
  | .d (.l k' es t) =>
   if t then
    if (es.length + ys.length) * bytes ≤ 2 ^ 47 then
     match es with
     | [] => some (.r id k 0 ys.length false, H.put id (some (.sl k 0 ys)))
     | e :: r => if K.eq k k' then match ys with
      | [] => some (x, H)
      | _ :: _ => some (.r id k 0 ((e :: r).length + ys.length) false, H.put id (some (.sl k 0 ((e :: r) ++ ys))))
      else none
    else none
   else none
  | .r o k' off len t => match H.obj o with
   | some (.sl k'' ro es) =>
    if K.eq k k' && K.eq k k'' && decide (off + len ≤ es.length) && decide ((len + ys.length) * bytes ≤ 2 ^ 47) then
     if t then match ys with
      | [] => some (x, H)
      | _ :: _ => some (.r id k 0 (len + ys.length) false, H.put id (some (.sl k 0 ((es.drop off).take len ++ ys))))
     else if ro ≤ off + len then
      some (.r id k 0 (len + ys.length) false, (H.put o none).put id (some (.sl k (ro - off) ((es.drop off).take len ++ ys))))
     else none
    else none
   | _ => none
  | _ => none
def aggA (z : List PV) : List (Nat × K × PV) → Option (List PV)
 | [] => some z
 | (off, k, v) :: r => if fits k v && decide (off + k.size ≤ z.length) then aggA (putAt z off v.cells) r else none
def bslA (H : Heap) (k : K) (es : List DV) : List (Nat × PV) → Option (List DV × List Nat)
 | [] => some (es, [])
 | (j, v) :: r => if fits k v && decide (j < es.length) then match pur H v with
  | some (x, os) => match bslA H k (es.set j x) r with
   | some (es', ps) => some (es', os ++ ps)
   | none => none
  | none => none
  else none
def primA (p : Nat) (xs : List PV) : Option PV := match p, xs with
 | 0, [.d (.i .u64 x), .d (.i .u64 y), .d (.i .u64 c)] =>
  if 0 ≤ x ∧ 0 ≤ y ∧ 0 ≤ c ∧ c ≤ 1 then some (.t [.d (.i .u64 ((x + y + c) % 18446744073709551616)), .d (.i .u64 ((x + y + c) / 18446744073709551616))]) else none
 | 1, [.d (.i .u64 x), .d (.i .u64 y), .d (.i .u64 c)] =>
  if 0 ≤ x ∧ 0 ≤ y ∧ y < 18446744073709551616 ∧ 0 ≤ c ∧ c ≤ 1 then some (.t [.d (.i .u64 ((x + 18446744073709551616 - y - c) % 18446744073709551616)), .d (.i .u64 (if x < y + c then 1 else 0))]) else none
 | _, _ => none
def mm2 (mx : Bool) : PV → PV → Option PV
 | .d (.i k x), .d (.i k' y) => if k = k' then some (.d (.i k (if mx then (if y > x then y else x) else (if y < x then y else x)))) else none
 | _, _ => none
def mmA (mx : Bool) : PV → List PV → Option PV
 | v, [] => some v
 | v, w :: r => match mm2 mx v w with | some x => mmA mx x r | none => none
def lenA (H : Heap) (str : Bool) : PV → Option Nat
 | .d (.l _ es _) => if str then none else some es.length
 | .r o _ off len _ => if str then none else match H.obj o with
  | some (.sl _ _ es) => if off + len ≤ es.length then some len else none
  | _ => none
 | .d (.s x) => if str then some x.length else none
 | _ => none
def nilA : Nat → PV → Option Bool
 | 0, .d .ni => some true
 | 0, .d (.ifc _ _) => some false
 | 0, .w _ _ => some false
 | 1, .d .np => some true
 | 1, .p _ _ _ => some false
 | 1, .q _ _ _ => some false
 | 2, .d .nm => some true
 | 3, .d .nf => some true
 | 3, .f _ _ => some false
 | 3, .m _ _ => some false
 | 4, .d (.l _ (_ :: _) _) => some false
 | _, _ => none
def keyS : DV → DV → Option Bool
 | .i k a, .i k' b => if k = k' then some (a == b) else none
 | .s a, .s b => some (a == b)
 | .b a, .b b => some (a == b)
 | _, _ => none
def kyOK : Ky → DV → Bool
 | .b, .b _ => true
 | .s, .s _ => true
 | .i k, .i k' _ => k == k'
 | _, _ => false
def getK (k : DV) : List (DV × DV) → Option (Option DV)
 | [] => some none
 | (a, v) :: r => match keyS k a with
  | some true => some (some v)
  | some false => getK k r
  | none => none
def putK (k x : DV) : List (DV × DV) → Option (List (DV × DV))
 | [] => some [(k, x)]
 | (a, v) :: r => match keyS k a with
  | some true => some ((a, x) :: r)
  | some false => match putK k x r with | some r' => some ((a, v) :: r') | none => none
  | none => none
def delK (k : DV) : List (DV × DV) → Option (List (DV × DV))
 | [] => some []
 | (a, v) :: r => match keyS k a with
  | some true => some r
  | some false => match delK k r with | some r' => some ((a, v) :: r') | none => none
  | none => none
def dbytes : List DV → Option (List UInt8)
 | [] => some []
 | .i .u8 n :: r => match dbytes r with | some l => some (UInt8.ofNat n.toNat :: l) | none => none
 | _ :: _ => none
def lookT (t : Nat) : List (Nat × Nat × Nat) → Option (Nat × Nat)
 | [] => none
 | (u, x) :: r => if u = t then some x else lookT t r
structure Env where
 G : Nat → Option (DV × K)
 ref : Nat → List PV → Heap → Option (PV × Heap)
 val : Nat → List DV → Option (PV × Bool)
 yld : Nat → List PV → Heap → Option (PV × Heap)
 it : (Nat → List PV → Heap → Option (PV × Heap)) → Nat → List PV → Heap → Option (PV × Heap)
 dok : Nat → Bool
def noY : Nat → List PV → Heap → Option (PV × Heap) := fun _ _ _ => none
def rd (E : Env) (fr : Fr) : Rand → PV
 | .t n => fr.get n
 | .c v => .d v
 | .g n => match E.G n with | some (v, k) => .q v k 0 | none => .u
 | .f n => .f n []
def opt (x : Option PV) (H : Heap) : Option (PV × Heap) := match x with | some v => some (v, H) | none => none
def optD (x : Option DV) (H : Heap) : Option (PV × Heap) := match x with | some v => some (.d v, H) | none => none
def evalOp (E : Env) (ρ : Rand → PV) (H : Heap) (id : Nat) : IOp → Option (PV × Heap)
 | .mov x => some (ρ x, H)
 | .pick c a b => match ρ c with
  | .d (.b true) => some (ρ a, H)
  | .d (.b false) => some (ρ b, H)
  | _ => none
 | .alloc k z => some (.p id 0 0, H.put id (some (.box k (.d z))))
 | .box k x => if fits k (ρ x) then some (.p id 0 0, H.put id (some (.box k (ρ x)))) else none
 | .agg z parts => match aggA (z.map .d) (parts.map fun x => (x.1, x.2.1, ρ x.2.2)) with
  | some cs => some (mkA cs, H)
  | none => none
 | .bsl k z len parts => match bslA H k (List.replicate len z) (parts.map fun x => (x.1, ρ x.2)) with
  | some (es, os) => some (.r id k 0 len true, (frz H os).put id (some (.sl k 0 es)))
  | none => none
 | .load k x => opt (loadA H k (ρ x)) H
 | .store k x y => match storeA H k (ρ x) (ρ y) with | some H' => some (.u, H') | none => none
 | .bin op x y => optD (binA op (ρ x) (ρ y)) H
 | .eqv neg n x y => match eqA n (ρ x) (ρ y) with
  | some e => some (.d (.b (if neg then !e else e)), H)
  | none => none
 | .eqb neg x y => match ρ x, ρ y with
  | .d (.b a), .d (.b b) => some (.d (.b (if neg then !(a == b) else a == b)), H)
  | _, _ => none
 | .isnil neg kd x => match nilA kd (ρ x) with | some b => some (.d (.b (if neg then !b else b)), H) | none => none
 | .un op x => optD (unA op (ρ x)) H
 | .conv k x => match ρ x with | .d (.i _ n) => some (.d (.i k (k.wrap n)), H) | _ => none
 | .slS x lo hi => match ρ x with
  | .d (.s s) => match bnd s.length s.length (hi.map ρ) with
   | some h => match bnd 0 h (lo.map ρ) with
    | some l => some (.d (.s ((s.take h).drop l)), H)
    | none => none
   | none => none
  | _ => none
 | .sl k x lo hi mx => opt (slA H k (ρ x) (lo.map ρ) (hi.map ρ) (mx.map ρ)) H
 | .faddr off x => opt (moveA off (ρ x)) H
 | .field off k x => opt (fieldA off k (ρ x)) H
 | .iaddr k x i => opt (iaddr H k (ρ x) (ρ i)) H
 | .iaddrA len k x i => match asI (ρ i) with
  | some n => match inR n len with | some j => opt (moveA (j * k.size) (ρ x)) H | none => none
  | none => none
 | .idxS x i => match ρ x, asI (ρ i) with
  | .d (.s s), some n => if 0 ≤ n then match s[n.toNat]? with
   | some b => some (.d (.i .u8 b.toNat), H)
   | none => none
   else none
  | _, _ => none
 | .idxA len k x i => match asI (ρ i) with
  | some n => match inR n len with
   | some j => opt (fieldA (j * k.size) k (ρ x)) H
   | none => none
  | none => none
 | .len str x => match lenA H str (ρ x) with | some n => some (.d (.i .i64 n), H) | none => none
 | .app k bytes x y => appA H id k bytes (ρ x) (ρ y)
 | .call 0 f args => match purs H (args.map ρ) with
  | some (ds, os) => match E.val f ds with
   | some (r, _) => some (r, if os.isEmpty || r.scal then H else frz H os)
   | none => none
  | none => none
 | .call 1 f args => match purs H (args.map ρ) with
  | some (ds, os) => match E.val f ds with
   | some (.d (.l k es _), true) => some (.r id k 0 es.length false, (if os.isEmpty then H else frz H os).put id (some (.sl k 0 es)))
   | _ => none
  | none => none
 | .call _ f args => E.ref f (args.map ρ) H
 | .callv x args => match ρ x with
  | .f n caps => match (if caps.isEmpty then plains (args.map ρ) else none) with
   | some ds => match E.val n ds with
    | some (r, _) => some (r, H)
    | none => none
   | none => E.ref n (args.map ρ ++ caps) H
  | .m n firsts => match plains (firsts ++ args.map ρ) with
   | some ds => match E.val n ds with
    | some (r, _) => some (r, H)
    | none => none
   | none => E.ref n (firsts ++ args.map ρ) H
  | .h o => E.yld o (args.map ρ) H
  | _ => none
 | .ext x i => match ρ x with
  | .t vs => opt vs[i]? H
  | _ => none
 | .mkf f caps => some (.f f (caps.map ρ), H)
 | .mkm f caps => some (.m f (caps.map ρ), H)
 | .prim p args => opt (primA p (args.map ρ)) H
 | .nilck x => match ρ x with
  | .p o i c => some (.p o i c, H)
  | .q v k c => some (.q v k c, H)
  | .f n cs => some (.f n cs, H)
  | _ => none
 | .mksl k bytes z len cap => match asI (ρ len), asI (ρ cap) with
  | some n, some c => if 0 ≤ n ∧ n ≤ c ∧ c * bytes ≤ 2 ^ 47 then some (.r id k 0 n.toNat false, H.put id (some (.sl k 0 (List.replicate n.toNat z)))) else none
  | _, _ => none
 | .minmax mx args => match args.map ρ with
  | v :: r => opt (mmA mx v r) H
  | [] => none
 | .copy k x y => match ρ x with
  | .r o k' off len _ => match H.obj o, elemsA H k (ρ y) with
   | some (.sl k'' ro es), some ys =>
    if K.eq k k' && K.eq k k'' && decide (off + len ≤ es.length) && decide (ro ≤ off) then
     let n := min ys.length len
     some (.d (.i .i64 n), H.put o (some (.sl k ro (putAt es off (ys.take n)))))
    else none
   | _, _ => none
  | _ => none
 | .clr k z x => match ρ x with
  | .r o k' off len _ => match H.obj o with
   | some (.sl k'' ro es) =>
    if K.eq k k' && K.eq k k'' && decide (off + len ≤ es.length) && decide (ro ≤ off) then some (.t [], H.put o (some (.sl k ro (putAt es off (List.replicate len z))))) else none
   | _ => none
  | .d (.l _ [] _) => some (.t [], H)
  | _ => none
 | .mkif t x => match pur H (ρ x) with
  | some (v, os) => some (.d (.ifc t v), frz H os)
  | none => some (.w t (ρ x), H)
 | .tas t z ok x => match ρ x with
  | .d (.ifc u v) => if u = t then some (if ok then .t [.d v, .d (.b true)] else .d v, H) else if ok then some (.t [.d z, .d (.b false)], H) else none
  | .w u v => if u = t then some (if ok then .t [v, .d (.b true)] else v, H) else if ok then some (.t [.d z, .d (.b false)], H) else none
  | .d .ni => if ok then some (.t [.d z, .d (.b false)], H) else none
  | _ => none
 | .invk tab x args => match ρ x with
  | .d (.ifc u v) => match lookT u tab with
   | some (0, f) => match purs H (args.map ρ) with
    | some (ds, os) => match E.val f (v :: ds) with
     | some (r, _) => some (r, if os.isEmpty || r.scal then H else frz H os)
     | none => none
    | none => none
   | some (_, f) => E.ref f (.d v :: args.map ρ) H
   | none => none
  | _ => none
 | .mkmap => some (.h id, H.put id (some (.mp [])))
 | .mget ky z ok x i => match ρ i, ρ x with
  | .d k, .h o => if kyOK ky k then match H.obj o with
   | some (.mp es) => match getK k es with
    | some r => some (if ok then .t [.d (r.getD z), .d (.b r.isSome)] else .d (r.getD z), H)
    | none => none
   | _ => none
   else none
  | _, _ => none
 | .mset ky x i v => match ρ i, ρ x, pur H (ρ v) with
  | .d k, .h o, some (xv, os) => if kyOK ky k then match H.obj o with
   | some (.mp es) => match putK k xv es with
    | some es' => some (.u, (frz H os).put o (some (.mp es')))
    | none => none
   | _ => none
   else none
  | _, _, _ => none
 | .mdel ky x i => match ρ i, ρ x with
  | .d k, .h o => if kyOK ky k then match H.obj o with
   | some (.mp es) => match delK k es with
    | some es' => some (.u, H.put o (some (.mp es')))
    | none => none
   | _ => none
   else none
  | _, _ => none
 | .mlen x => match ρ x with
  | .h o => match H.obj o with
   | some (.mp es) => some (.d (.i .i64 es.length), H)
   | _ => none
  | _ => none
 | .rngS x => match ρ x with
  | .d (.s l) => some (.h id, H.put id (some (.si l 0)))
  | _ => none
 | .nxt x => match ρ x with
  | .h o => match H.obj o with
   | some (.si l pos) =>
    if pos < l.length then
     let c := Utf8.decode ⟨l.toArray⟩ pos
     some (.t [.d (.b true), .d (.i .i64 pos), .d (.i .i32 c.1)], H.put o (some (.si l (pos + c.2))))
    else some (.t [.d (.b false)], H)
   | _ => none
  | _ => none
 | .sb x => match ρ x with
  | .d (.s _) => none
  | y => match elemsA H none y with
   | some es => match dbytes es with | some l => some (.d (.s l), H) | none => none
   | none => none
 | .bs x => match ρ x with
  | .d (.s l) => some (.d (.l none (bytesOf l) false), H)
  | _ => none
 | .dfr x y => match ρ x, ρ y with
  | .f n caps, .u => some (.g (.f n caps), H)
  | _, _ => none
 | .bad => none
def IOp.adds : IOp → Bool
 | .alloc .. | .box .. | .bsl .. | .app .. | .mksl .. | .mkmap | .rngS _ => true
 | .call m .. => m == 1
 | _ => false
def evalOps (E : Env) : List IOper → Nat → St → Option St
 | [], _, s => some s
 | o :: r, id, s =>
  let go : Option St := match evalOp E (rd E s.fr) s.H id o.op with
   | some (v, H) => evalOps E r (if o.op.adds then id + 1 else id) ⟨match o.dst with | some t => s.fr.set t v | none => s.fr, H⟩
   | none => none
  let no : Option St := evalOps E r (if o.op.adds then id + 1 else id) ⟨match o.dst with | some t => s.fr.set t (.t []) | none => s.fr, s.H⟩
  match o.g with
  | none => go
  | some (t, want) => match s.fr.get t with
   | .d (.b b) => if b == want then go else no
   | .t [] => no
   | _ => none
def IOp.okD (ρ : Rand → PV) : IOp → Bool
 | .call m _ _ => Nat.ble m 1
 | .callv x args => match ρ x with
  | .f _ caps => caps.isEmpty && (plains (args.map ρ)).isSome
  | _ => false
 | .app _ _ _ _ | .copy _ _ _ | .clr _ _ _ | .bad | .invk _ _ _ | .mkmap | .mset _ _ _ _ | .mdel _ _ _ | .rngS _ | .nxt _ | .bs _ | .sb _ | .dfr _ _ | .mget _ _ _ _ _ | .mlen _ => false
 | _ => true
def IOp.barr : IOp → Bool
 | .bad | .dfr _ _ => false
 | _ => true
def evalOpD (E : Env) (ρ : Rand → PV) (H : Heap) (id : Nat) (x : IOp) : Option (PV × Heap) :=
 if x.okD ρ then evalOp E ρ H id x else if x.barr then match evalOp E ρ H id x with
  | some (v, H') => if Nat.beq H'.length H.length then some (v, H') else none
  | none => none
 else none
def footD (ρ : Rand → PV) : IOp → List Nat
 | .load _ x | .len _ x | .sl _ x _ _ _ | .iaddr _ x _ | .mkif _ x => (ρ x).refs
 | .call _ _ as0 => as0.flatMap fun x => (ρ x).refs
 | .bsl _ _ _ ps => ps.flatMap fun x => (ρ x.2).refs
 | .store _ x y => (ρ x).refs ++ (ρ y).refs
 | _ => []
def storeD (ρ : Rand → PV) : IOp → List Nat
 | .store _ x _ => (ρ x).refs
 | _ => []
def stepD (E : Env) (o : IOper) (id : Nat) (s : St) : Option St :=
 let go : Option St := match evalOpD E (rd E s.fr) s.H id o.op with
  | some (v, H) => some ⟨match o.dst with | some t => s.fr.set t v | none => s.fr, H⟩
  | none => none
 let no : Option St := some ⟨match o.dst with | some t => s.fr.set t (.t []) | none => s.fr, s.H⟩
 match o.g with
 | none => go
 | some (t, want) => match s.fr.get t with
  | .d (.b b) => if b == want then go else no
  | .t [] => no
  | _ => none
def runs (o : IOper) (fr : Fr) : Bool := match o.g with
 | none => true
 | some (t, want) => match fr.get t with
  | .d (.b b) => b == want
  | _ => false
def roOf : Option Obj → Nat
 | some (.sl _ ro _) => ro
 | _ => 0
def chg (H H' : Heap) : List Nat → List Nat
 | [] => []
 | o :: r => if Nat.beq (roOf (H.obj o)) (roOf (H'.obj o)) then chg H H' r else o :: chg H H' r
mutual
def DV.same : DV → DV → Bool
 | .b x, .b y => x == y
 | .i k n, .i k' m => decide (k = k') && decide (n = m)
 | .s x, .s y => x == y
 | .a cs, .a ds => DV.sameL cs ds
 | .l k es t, .l k' fs t' => K.eq k k' && (t == t') && DV.sameL es fs
 | .np, .np => true
 | .nf, .nf => true
 | .ni, .ni => true
 | .nm, .nm => true
 | .ifc t v, .ifc t' w => Nat.beq t t' && DV.same v w
 | .tok n, .tok m => Nat.beq n m
 | _, _ => false
def DV.sameL : List DV → List DV → Bool
 | [], [] => true
 | x :: xs, y :: ys => DV.same x y && DV.sameL xs ys
 | _, _ => false
end
mutual
def PV.same : PV → PV → Bool
 | .u, .u => true
 | .d v, .d v' => v.same v'
 | .a cs, .a ds => PV.sameL cs ds
 | .t cs, .t ds => PV.sameL cs ds
 | .r o k off len tt, .r o' k' off' len' tt' => Nat.beq o o' && K.eq k k' && Nat.beq off off' && Nat.beq len len' && (tt == tt')
 | .p o i c, .p o' i' c' => Nat.beq o o' && Nat.beq i i' && Nat.beq c c'
 | .q v k c, .q v' k' c' => v.same v' && K.eq k k' && Nat.beq c c'
 | .f n cs, .f n' ds => Nat.beq n n' && PV.sameL cs ds
 | .h o, .h o' => Nat.beq o o'
 | .m n cs, .m n' ds => Nat.beq n n' && PV.sameL cs ds
 | .w n v, .w n' v' => Nat.beq n n' && PV.same v v'
 | _, _ => false
def PV.sameL : List PV → List PV → Bool
 | [], [] => true
 | x :: xs, y :: ys => PV.same x y && PV.sameL xs ys
 | _, _ => false
end
def objSame : Option Obj → Option Obj → Bool
 | none, none => true
 | some (.box k v), some (.box k' v') => K.eq k k' && v.same v'
 | some (.sl k ro es), some (.sl k' ro' es') => K.eq k k' && Nat.beq ro ro' && DV.sameL es es'
 | some (.si s n), some (.si s' n') => Nat.beq n n' && s == s'
 | some .df, some .df => true
 | _, _ => false
def chgA (H H' : Heap) : List Nat → List Nat
 | [] => []
 | o :: r => if objSame (H.obj o) (H'.obj o) then chgA H H' r else o :: chgA H H' r
def writeS (E : Env) (o : IOper) (id : Nat) (s s' : St) : List Nat := if runs o s.fr then (if o.op.adds then [id] else []) ++ (if o.op.okD (rd E s.fr) then storeD (rd E s.fr) o.op ++ chg s.H s'.H (footD (rd E s.fr) o.op) else chgA s.H s'.H (List.range s.H.length)) else []
def touchS (E : Env) (o : IOper) (s : St) : List Nat := if runs o s.fr then (if o.op.okD (rd E s.fr) then footD (rd E s.fr) o.op else List.range s.H.length) else []
def disj (a b : List Nat) : Bool := a.all fun x => !b.contains x
def pairsD (b : Nat) : Nat → List (List Nat × List Nat) → List Nat → List Nat → Bool
 | _, [], _, _ => true
 | i, x :: r, t, w => (b.testBit i || (disj x.2 t && disj w x.1)) && pairsD b (i + 1) r t w
def evalOpsD (E : Env) : List IOper → List Nat → List (List Nat × List Nat) → Nat → St → Option St
 | [], _, _, _, s => some s
 | o :: r, bf, acc, id, s => match stepD E o id s with
  | some s' => if pairsD (bf.headD 0) 0 acc (writeS E o id s s' ++ touchS E o s) (writeS E o id s s') then evalOpsD E r bf.tail (acc ++ [(writeS E o id s s' ++ touchS E o s, writeS E o id s s')]) (if o.op.adds then id + 1 else id) s' else none
  | none => none
def nadds : List IOper → Nat
 | [] => 0
 | o :: r => (if o.op.adds then 1 else 0) + nadds r
abbrev Res := Option (Ex × St)
def evalReg (E : Env) (ops : List IOper) (kill : List Nat) (s : St) : Option St :=
 match evalOps E ops s.H.length ⟨s.fr, s.H ++ List.replicate (nadds ops) none⟩ with
 | some s' => some ⟨s'.fr.drop kill, s'.H⟩
 | none => none
def evalRegD (E : Env) (ops : List IOper) (bf : List Nat) (kill : List Nat) (s : St) : Option St :=
 match evalOpsD E ops bf [] s.H.length ⟨s.fr, s.H ++ List.replicate (nadds ops) none⟩ with
 | some s' => some ⟨s'.fr.drop kill, s'.H⟩
 | none => none
def isN : Ex → Bool
 | .norm => true
 | _ => false
def setA (fr : Fr) : List Nat → List PV → Fr
 | p :: ps, v :: vs => setA (fr.set p v) ps vs
 | _, _ => fr
def rngY (evA evX : Nat → St → Res) (fr : Fr) (o : Nat) (ps : List Nat) (yld : Nat → List PV → Heap → Option (PV × Heap)) (o' : Nat) (args : List PV) (H : Heap) : Option (PV × Heap) :=
 if o' = o then
  if args.length = ps.length then
   match H.obj o with
   | some (.lp 0 none) =>
    match evA H.length ⟨setA fr ps args, H⟩ with
    | some (.norm, s1) => match s1.H.obj o with
     | some (.lp 0 none) => match evX H.length ⟨s1.fr, s1.H.put o (some (.lp 2 none))⟩ with
      | some (e, s2) => match s2.H.obj o with
       | some (.lp 2 none) => some (gcV H.length (.d (.b (isN e))) (s2.H.put o (some (if isN e then .lp 0 none else .lp 1 (some e)))))
       | _ => none
      | none => none
     | _ => none
    | _ => none
   | _ => none
  else none
 else yld o' args H
def evalC (E : Env) (lp : (St → Res) → St → Res) (base : Nat) : PC → St → Res
 | .skip, s => some (.norm, s)
 | .reg ops kill, s => match evalReg E ops kill s with | some s' => some (.norm, s') | none => none
 | .regD ops bf kill, s => match evalRegD E ops bf kill s with | some s' => some (.norm, s') | none => none
 | .seq a b, s => match evalC E lp base a s with
  | some (.norm, s') => evalC E lp base b s'
  | r => r
 | .cond c x y, s => match rd E s.fr c with
  | .d (.b true) => evalC E lp base x s
  | .d (.b false) => evalC E lp base y s
  | _ => none
 | .block id x, s => match evalC E lp base x s with
  | some (.exit j, s') => if j == id then some (.norm, s') else some (.exit j, s')
  | r => r
 | .loop live x, s => lp (fun s => evalC E lp base x (gc live base s)) s
 | .rng f g ps live a x, s => match rd E s.fr f, s.fr.get g with
  | .f n caps, .u =>
   let o := s.H.length
   match E.it (rngY (fun b s => evalC E lp b a s) (fun b s => evalC E lp b x s) (Fr.only live s.fr) o ps E.yld) n (.h o :: caps) (s.H ++ [some (.lp 0 none), some .df]) with
   | some (_, H') => match H'.obj o with
    | some (.lp 0 none) => some (.norm, ⟨s.fr.set g (.g (.h (o + 1))), H'.put o none⟩)
    | some (.lp 1 (some e)) => some (e, ⟨s.fr.set g (.g (.h (o + 1))), H'.put o none⟩)
    | _ => none
   | none => none
  | _, _ => none
 | .exit id, s => some (.exit id, s)
 | .ret, s => some (.ret, s)
 | .bad, _ => none
def results (fr : Fr) (H : Heap) : List RV → Option (List PV)
 | [] => some []
 | .t n :: r => match results fr H r with | some vs => some (fr.get n :: vs) | none => none
 | .c n k :: r => match loadA H k (fr.get n), results fr H r with
  | some v, some vs => some (v :: vs)
  | _, _ => none
def packed : List PV → PV
 | [v] => v
 | vs => .t vs
def ghosts : Fr → List PV
 | [] => []
 | (j, v) :: r => if Nat.ble gh j then v :: ghosts r else ghosts r
def runG (E : Env) (gs : List PV) (H : Heap) : Option Heap := match gs with
 | [] => some H
 | [.g (.h o)] => match H.obj o with
  | some .df => some (H.put o none)
  | _ => none
 | [.g (.f n caps)] => if E.dok n then match E.ref n caps H with
  | some (_, H') => some H'
  | none => none
  else none
 | _ => none
def evalF (E : Env) (lp : (St → Res) → St → Res) (F : PF) (args : List PV) (H : Heap) : Option (PV × Heap) :=
 if args.length = F.nargs then
  match evalC E lp H.length F.body ⟨Fr.ofArgs 0 args, H⟩ with
  | some (.norm, s) | some (.ret, s) => match runG E (ghosts s.fr) s.H with
   | some H' => match results s.fr H' F.results with
    | some vs => some (packed vs, H')
    | none => none
   | none => none
  | _ => none
 else none
def lpN : Nat → (St → Res) → St → Res
 | 0, _, _ => none
 | n + 1, f, s => match f s with
  | some (.norm, s') => lpN n f s'
  | r => r
structure Tab where
 F : Nat → Option PF
 X : Nat → List DV → Option (PV × Bool)
 R : Nat → List PV → Heap → Option (PV × Heap)
 G : Nat → Option (DV × K)
def Tab.dok (T : Tab) (f : Nat) : Bool := (T.F f).isSome
mutual
def itN (T : Tab) : Nat → (Nat → List PV → Heap → Option (PV × Heap)) → Nat → List PV → Heap → Option (PV × Heap)
 | 0, _, _, _, _ => none
 | n + 1, Y, f, args, H => match T.F f with
  | some F => match evalF ⟨T.G, itN T n noY, valN T n, Y, itN T n, T.dok⟩ (lpN n) F args H with
   | some (v, H') => some (gcV H.length v H')
   | none => none
  | none => T.R f args H
def valN (T : Tab) : Nat → Nat → List DV → Option (PV × Bool)
 | 0, _, _ => none
 | n + 1, f, args => match T.F f with
  | some F => match evalF ⟨T.G, itN T n noY, valN T n, noY, itN T n, T.dok⟩ (lpN n) F (args.map .d) [] with
   | some (v, H') => purT H' v
   | none => none
  | none => T.X f args
end
def refN (T : Tab) (n : Nat) : Nat → List PV → Heap → Option (PV × Heap) := itN T n noY
def cloneX (k : K) (b : Nat) : List DV → Option (PV × Bool)
 | [.l k' es _] => if (es.isEmpty || K.eq k k') && decide (es.length * b ≤ 2 ^ 47) then some (.d (.l k es false), true) else none
 | _ => none
def Rand.uses : Rand → List Nat | .t n => [n] | _ => []
def usesO : Option Rand → List Nat | some r => r.uses | none => []
def usesL (l : List Rand) : List Nat := l.flatMap Rand.uses
def IOp.uses : IOp → List Nat
 | .mov x | .clr _ _ x | .mkif _ x | .tas _ _ _ x | .mlen x | .rngS x | .nxt x | .sb x | .bs x | .box _ x | .load _ x | .isnil _ _ x | .un _ x | .conv _ x | .faddr _ x | .field _ _ x | .len _ x | .ext x _ | .nilck x => x.uses
 | .pick c a b => c.uses ++ a.uses ++ b.uses
 | .alloc _ _ | .mkmap | .bad => []
 | .mget _ _ _ x i | .mdel _ x i | .dfr x i => x.uses ++ i.uses
 | .mset _ x i v => x.uses ++ i.uses ++ v.uses
 | .invk _ x as0 => x.uses ++ usesL as0
 | .agg _ ps => ps.flatMap fun x => x.2.2.uses
 | .bsl _ _ _ ps => ps.flatMap fun x => x.2.uses
 | .store _ x y | .bin _ x y | .eqv _ _ x y | .eqb _ x y | .iaddr _ x y | .iaddrA _ _ x y | .idxS x y | .idxA _ _ x y | .app _ _ x y | .mksl _ _ _ x y | .copy _ x y => x.uses ++ y.uses
 | .slS x a b => x.uses ++ usesO a ++ usesO b
 | .sl _ x a b c => x.uses ++ usesO a ++ usesO b ++ usesO c
 | .call _ _ as0 | .mkf _ as0 | .mkm _ as0 | .prim _ as0 | .minmax _ as0 => usesL as0
 | .callv x as0 => x.uses ++ usesL as0
def IOper.uses (o : IOper) : List Nat := o.op.uses ++ (match o.g with | some (t, _) => [t] | none => [])
def apartD (x y : IOper) : Bool :=
 (match x.dst with | some d => !(y.uses.contains d) && !(y.dst == some d) | none => true) &&
 (match y.dst with | some d => !(x.uses.contains d) | none => true)
end Go.Sim

