/- The abstract machine: an evaluator over resolved code whose values are plain data, so that a Go function's result can be computed without memory. Condition-free definitions. -/
import Derived.Control
namespace Go.Sim

/-- Plain data. K: the shape of one variable: none: one cell that is no struct; some n: a struct or an array of n cells. -/
abbrev K := Option Nat
inductive DV where
  | b (x : Bool)
  | i (k : IntKind) (n : Int)
  | s (x : List UInt8)
  | a (cs : List DV)
  | l (k : K) (es : List DV) (tight : Bool)
  | np
  | nf
  | ni
  | nm
  deriving Inhabited
/-- Values of a running function: plain data, or with references into the heap of the running activation. -/
inductive PV where
  | u
  | d (v : DV)
  | a (cs : List PV)
  | t (vs : List PV)
  | r (o : Nat) (k : K) (off len : Nat) (tight : Bool)
  | p (o i c : Nat)
  | q (v : DV) (k : K) (c : Nat)
  | f (fn : Nat) (caps : List PV)
  deriving Inhabited
inductive Rand where
  | t (n : Nat)
  | c (v : DV)
  | g (n : Nat)
  | f (n : Nat)
  deriving Inhabited
inductive Obj where
  | box (k : K) (v : PV)
  | sl (k : K) (ro : Nat) (es : List DV)
  deriving Inhabited
abbrev Heap := List (Option Obj)
abbrev Fr := List (Nat × PV)

inductive IOp where
  | mov (x : Rand)
  | pick (c a b : Rand)
  | alloc (k : K) (z : DV)
  | box (k : K) (x : Rand)
  | agg (z : List DV) (parts : List (Nat × K × Rand))
  | bsl (k : K) (z : DV) (len : Nat) (parts : List (Nat × Rand))
  | load (k : K) (x : Rand)
  | store (k : K) (x y : Rand)
  | bin (op : BinOp) (x y : Rand)
  | eqv (neg : Bool) (ks : List Nat) (x y : Rand)
  | eqb (neg : Bool) (x y : Rand)
  | isnil (neg : Bool) (x : Rand)
  | un (op : UnOp) (x : Rand)
  | conv (k : IntKind) (x : Rand)
  | slS (x : Rand) (lo hi : Option Rand)
  | sl (k : K) (x : Rand) (lo hi mx : Option Rand)
  | faddr (off : Nat) (x : Rand)
  | field (off : Nat) (k : K) (x : Rand)
  | iaddr (k : K) (x i : Rand)
  | iaddrA (len : Nat) (k : K) (x i : Rand)
  | idxS (x i : Rand)
  | idxA (len : Nat) (k : K) (x i : Rand)
  | len (str : Bool) (x : Rand)
  | app (k : K) (bytes : Nat) (x y : Rand)
  | call (mode : Nat) (f : Nat) (args : List Rand)
  | callv (x : Rand) (args : List Rand)
  | ext (x : Rand) (i : Nat)
  | mkf (f : Nat) (caps : List Rand)
  | prim (p : Nat) (args : List Rand)
  | nilck (x : Rand)
  | mksl (k : K) (bytes : Nat) (z : DV) (len cap : Rand)
  | minmax (mx : Bool) (args : List Rand)
  | copy (k : K) (x y : Rand)
  | bad
  deriving Inhabited
structure IOper where
  dst : Option Nat
  op : IOp
  g : Option (Nat × Bool)
  deriving Inhabited
inductive PC where
  | skip
  | reg (ops : List IOper) (kill : List Nat)
  | regD (ops : List IOper) (kill : List Nat)
  | seq (a b : PC)
  | cond (c : Rand) (x y : PC)
  | block (id : Nat) (x : PC)
  | loop (live : List Nat) (x : PC)
  | exit (id : Nat)
  | ret
  | bad
  deriving Inhabited
inductive RV where
  | t (n : Nat)
  | c (n : Nat) (k : K)
  deriving Inhabited
structure PF where
  nargs : Nat
  results : List RV
  body : PC
  deriving Inhabited

def DV.cells : DV → List DV
  | .a cs => cs
  | v => [v]
def K.size : K → Nat
  | none => 1
  | some n => n
def PV.cells : PV → List PV
  | .a cs => cs
  | .d (.a cs) => cs.map .d
  | v => [v]
/-- All plain? -/
def plains : List PV → Option (List DV)
  | [] => some []
  | .d v :: r => match plains r with | some vs => some (v :: vs) | none => none
  | _ :: _ => none
def mkA (cs : List PV) : PV := match plains cs with | some vs => .d (.a vs) | none => .a cs
/-- A value of shape k out of its cells. -/
def mkP (k : K) (cs : List PV) : Option PV := match k with
  | none => match cs with | [v] => some v | _ => none
  | some n => if cs.length = n then some (mkA cs) else none
def mkD (k : K) (cs : List DV) : Option DV := match k with
  | none => match cs with | [v] => some v | _ => none
  | some n => if cs.length = n then some (.a cs) else none

def Fr.get : Fr → Nat → PV
  | [], _ => .u
  | (j, v) :: r, t => if j = t then v else Fr.get r t
def Fr.set : Fr → Nat → PV → Fr
  | [], t, v => [(t, v)]
  | (j, x) :: r, t, v => if j = t then (t, v) :: r else if t < j then (t, v) :: (j, x) :: r else (j, x) :: Fr.set r t v
def Fr.keep (l : List Nat) : Fr → Fr
  | [] => []
  | (j, v) :: r => if l.contains j then (j, v) :: Fr.keep l r else Fr.keep l r
def Fr.drop (l : List Nat) : Fr → Fr
  | [] => []
  | (j, v) :: r => if l.contains j then Fr.drop l r else (j, v) :: Fr.drop l r
def Fr.ofArgs : Nat → List PV → Fr
  | _, [] => []
  | j, v :: r => (j, v) :: Fr.ofArgs (j + 1) r

def Heap.obj (H : Heap) (o : Nat) : Option Obj := match H[o]? with | some x => x | none => none
def Heap.put (H : Heap) (o : Nat) (x : Option Obj) : Heap := H.set o x


/-- Reading a value as plain data; the objects that are read. The cells of a struct are scalars, slices or references to slices of plain data. -/
def purC (H : Heap) : PV → Option (DV × List Nat)
  | .d (.l k es _) => some (.l k es false, [])
  | .d x => some (x, [])
  | .r o k off len _ => match H.obj o with
    | some (.sl k' _ es) => if k' = k ∧ off + len ≤ es.length then some (.l k ((es.drop off).take len) false, [o]) else none
    | _ => none
  | _ => none
def purL (H : Heap) : List PV → Option (List DV × List Nat)
  | [] => some ([], [])
  | v :: r => match purC H v, purL H r with
    | some (x, os), some (xs, ps) => some (x :: xs, os ++ ps)
    | _, _ => none
def pur (H : Heap) : PV → Option (DV × List Nat)
  | .a cs => match purL H cs with | some (xs, os) => some (.a xs, os) | none => none
  | v => purC H v
def purs (H : Heap) : List PV → Option (List DV × List Nat)
  | [] => some ([], [])
  | v :: r => match pur H v, purs H r with
    | some (x, os), some (xs, ps) => some (x :: xs, os ++ ps)
    | _, _ => none
/-- A call's outcome read as plain data; is it one slice that nothing else holds? -/
def purT (H : Heap) : PV → Option (PV × Bool)
  | .t vs => match purs H vs with | some (xs, _) => some (.t (xs.map .d), false) | none => none
  | .r o k off len _ => match H.obj o with
    | some (.sl k' ro es) => if k' = k ∧ off + len ≤ es.length then some (.d (.l k ((es.drop off).take len) false), decide (ro ≤ off)) else none
    | _ => none
  | .d (.l k es true) => some (.d (.l k es false), es.isEmpty)
  | v => match pur H v with | some (x, _) => some (.d x, false) | none => none
/-- No slice inside. -/
def DV.scal1 : DV → Bool
  | .b _ | .i _ _ | .s _ | .np | .nf | .ni | .nm => true
  | _ => false
def DV.scal : DV → Bool
  | .a cs => cs.all DV.scal1
  | x => x.scal1
def PV.scal1 : PV → Bool
  | .d v => v.scal
  | _ => false
def PV.scal : PV → Bool
  | .t vs => vs.all PV.scal1
  | x => x.scal1
def frz1 (H : Heap) (o : Nat) : Heap := match H.obj o with
  | some (.sl k ro es) => H.put o (some (.sl k (max es.length ro) es))
  | _ => H
def frz (H : Heap) : List Nat → Heap
  | [] => H
  | o :: r => frz (frz1 H o) r

/-! What is reachable, and numbering anew. -/
mutual
def PV.refs : PV → List Nat
  | .r o _ _ _ _ => [o]
  | .p o _ _ => [o]
  | .a cs => PV.refsL cs
  | .t vs => PV.refsL vs
  | .f _ cs => PV.refsL cs
  | _ => []
def PV.refsL : List PV → List Nat
  | [] => []
  | v :: vs => PV.refs v ++ PV.refsL vs
end
mutual
def PV.ren (ρ : Nat → Option Nat) : PV → PV
  | .r o k off len tt => match ρ o with | some o' => .r o' k off len tt | none => .u
  | .p o i c => match ρ o with | some o' => .p o' i c | none => .u
  | .a cs => .a (PV.renL ρ cs)
  | .t vs => .t (PV.renL ρ vs)
  | .f n cs => .f n (PV.renL ρ cs)
  | .u => .u
  | .d v => .d v
  | .q v k c => .q v k c
def PV.renL (ρ : Nat → Option Nat) : List PV → List PV
  | [] => []
  | v :: vs => PV.ren ρ v :: PV.renL ρ vs
end
def Obj.refs : Obj → List Nat
  | .box _ v => v.refs
  | .sl _ _ _ => []
def Obj.ren (ρ : Nat → Option Nat) : Obj → Obj
  | .box k v => .box k (v.ren ρ)
  | x => x
def orefs : Option Obj → List Nat
  | some x => x.refs
  | none => []
def reach (H : Heap) (base : Nat) : Nat → List Nat → List Nat → List Nat
  | 0, acc, _ => acc
  | _ + 1, acc, [] => acc
  | n + 1, acc, o :: todo =>
    if o < base then reach H base n acc todo
    else if acc.contains o then reach H base n acc todo
    else reach H base n (acc ++ [o]) (orefs (H.obj o) ++ todo)
def place (base : Nat) : List Nat → Nat → Option Nat
  | ids, o => if o < base then some o else (ids.idxOf? o).map (base + ·)
def gcH (ρ : Nat → Option Nat) (H : Heap) (base : Nat) (ids : List Nat) : Heap :=
  (H.take base).map (·.map (·.ren ρ)) ++ ids.map fun o => (H.obj o).map (·.ren ρ)
def frRefs : Fr → List Nat
  | [] => []
  | (_, v) :: r => v.refs ++ frRefs r
def Fr.ren (ρ : Nat → Option Nat) : Fr → Fr
  | [] => []
  | (j, v) :: r => (j, v.ren ρ) :: Fr.ren ρ r
def heapRefs : Heap → List Nat
  | [] => []
  | x :: r => orefs x ++ heapRefs r

structure St where
  fr : Fr
  H : Heap
  deriving Inhabited
def gc (live : List Nat) (base : Nat) (s : St) : St :=
  let fr := Fr.keep live s.fr
  let ids := reach s.H base 1000 [] (frRefs fr ++ heapRefs (s.H.take base))
  let ρ := place base ids
  ⟨Fr.ren ρ fr, gcH ρ s.H base ids⟩
def gcV (base : Nat) (v : PV) (H : Heap) : PV × Heap :=
  let ids := reach H base 1000 [] (v.refs ++ heapRefs (H.take base))
  let ρ := place base ids
  (v.ren ρ, gcH ρ H base ids)

/-! Operations. -/
def fits : K → PV → Bool
  | none, v => match v with | .a _ | .d (.a _) | .t _ | .u => false | _ => true
  | some n, v => match v with | .a cs | .d (.a cs) => cs.length == n | _ => false
def K.eq : K → K → Bool
  | none, none => true
  | some n, some m => n == m
  | _, _ => false
def subD (kv : K) (v : DV) (c : Nat) (k : K) : Option DV :=
  if c == 0 && K.eq k kv then some v else if c + k.size ≤ kv.size then mkD k ((v.cells.drop c).take k.size) else none
def subP (kv : K) (v : PV) (c : Nat) (k : K) : Option PV :=
  if c == 0 && K.eq k kv then some v else if c + k.size ≤ kv.size then mkP k ((v.cells.drop c).take k.size) else none
def putAt {α : Type} (l : List α) (c : Nat) (xs : List α) : List α := l.take c ++ xs ++ l.drop (c + xs.length)
def asI : PV → Option Int
  | .d (.i _ n) => some n
  | _ => none
def inR (n : Int) (len : Nat) : Option Nat := if 0 ≤ n ∧ n < len then some n.toNat else none
def loadA (H : Heap) (k : K) : PV → Option PV
  | .p o i c => match H.obj o with
    | some (.box kb v) => if i == 0 then subP kb v c k else none
    | some (.sl kb _ es) => match es[i]? with
      | some e => match subD kb e c k with | some x => some (.d x) | none => none
      | none => none
    | none => none
  | .q v kv c => match subD kv v c k with | some x => some (.d x) | none => none
  | _ => none
def storeA (H : Heap) (k : K) (ptr v : PV) : Option Heap := match ptr with
  | .p o i c => if fits k v then match H.obj o with
    | some (.box kb w) =>
      if i == 0 then
        if c == 0 && K.eq k kb then some (H.put o (some (.box kb v)))
        else if c + k.size ≤ w.cells.length then match mkP kb (putAt w.cells c v.cells) with
          | some w' => some (H.put o (some (.box kb w')))
          | none => none
        else none
      else none
    | some (.sl kb ro es) => match es[i]? with
      | some e => if ro ≤ i then match pur H v with
        | some (x, os) =>
          if os.contains o then none else if c == 0 && K.eq k kb then some ((frz H os).put o (some (.sl kb ro (es.set i x))))
          else if c + k.size ≤ e.cells.length then match mkD kb (putAt e.cells c x.cells) with
            | some e' => some ((frz H os).put o (some (.sl kb ro (es.set i e'))))
            | none => none
          else none
        | none => none
        else none
      | none => none
    | none => none
    else none
  | _ => none
def binI (op : BinOp) (k : IntKind) (a b : Int) : Option DV := match op with
  | .add => some (.i k (k.wrap (a + b)))
  | .sub => some (.i k (k.wrap (a - b)))
  | .mul => some (.i k (k.wrap (a * b)))
  | .quo => if b = 0 then none else some (.i k (k.wrap (a.tdiv b)))
  | .rem => if b = 0 then none else some (.i k (a.tmod b))
  | .and => some (.i k (k.wrap (BitVec.ofInt k.bits a &&& BitVec.ofInt k.bits b).toNat))
  | .or => some (.i k (k.wrap (BitVec.ofInt k.bits a ||| BitVec.ofInt k.bits b).toNat))
  | .xor => some (.i k (k.wrap (BitVec.ofInt k.bits a ^^^ BitVec.ofInt k.bits b).toNat))
  | .andNot => some (.i k (k.wrap (BitVec.ofInt k.bits a &&& ~~~(BitVec.ofInt k.bits b)).toNat))
  | .eql => some (.b (a == b))
  | .neq => some (.b (a != b))
  | .lss => some (.b (decide (a < b)))
  | .leq => some (.b (decide (a ≤ b)))
  | .gtr => some (.b (decide (a > b)))
  | .geq => some (.b (decide (a ≥ b)))
  | _ => none
def binS (op : BinOp) (x y : List UInt8) : Option DV := match op with
  | .add => if x.length + y.length < 2 ^ 62 then some (.s (x ++ y)) else none
  | .eql => some (.b (x == y))
  | .neq => some (.b (!(x == y)))
  | .lss => some (.b (Op.bytesLess x y))
  | .leq => some (.b (Op.bytesLess x y || x == y))
  | .gtr => some (.b (!(Op.bytesLess x y || x == y)))
  | .geq => some (.b (!(Op.bytesLess x y)))
  | _ => none
def shiftI (op : BinOp) (k : IntKind) (a b : Int) : Option DV :=
  if b < 0 then none else
  let n := min b.toNat k.bits
  match op with
  | .shl => some (.i k (k.wrap (a * 2 ^ n)))
  | .shr => some (.i k (a.fdiv (2 ^ n)))
  | _ => none
def binA (op : BinOp) : PV → PV → Option DV
  | .d (.i k a), .d (.i k' b) => match op with
    | .shl | .shr => shiftI op k a b
    | _ => if k = k' then binI op k a b else none
  | .d (.s x), .d (.s y) => binS op x y
  | _, _ => none
/-- Equal, as whole numbers (1), bools (2), texts (3). -/
def eqK : Nat → DV → DV → Option Bool
  | 1, .i k a, .i k' b => if k = k' then some (a == b) else none
  | 2, .b a, .b b => some (a == b)
  | 3, .s a, .s b => some (a == b)
  | _, _, _ => none
def eqL : List Nat → List DV → List DV → Option Bool
  | [], [], [] => some true
  | k :: ks, x :: xs, y :: ys => match eqK k x y, eqL ks xs ys with
    | some e, some r => some (e && r)
    | _, _ => none
  | _, _, _ => none
def eqA (ks : List Nat) : PV → PV → Option Bool
  | .d (.a xs), .d (.a ys) => eqL ks xs ys
  | _, _ => none
def unA (op : UnOp) : PV → Option DV
  | .d (.i k n) => match op with
    | .neg => some (.i k (k.wrap (0 - n)))
    | .xor => some (.i k (k.wrap (BitVec.ofInt k.bits (if k.signed then -1 else k.max) ^^^ BitVec.ofInt k.bits n).toNat))
    | _ => none
  | .d (.b b) => match op with
    | .not => some (.b (!b))
    | _ => none
  | _ => none
/-- The bounds of a slice expression: low, high; is the capacity cut there? -/
def bnd (dflt top : Nat) : Option PV → Option Nat
  | none => some dflt
  | some v => match asI v with
    | some n => if 0 ≤ n ∧ n ≤ top then some n.toNat else none
    | none => none
def slA (H : Heap) (k : K) (x : PV) (lo hi mx : Option PV) : Option PV := match x with
  | .d (.l k' es t) =>
    if K.eq k k' || es.isEmpty then
    match bnd es.length es.length mx with
    | some m => match bnd m m hi with
      | some h => match bnd 0 h lo with
        | some l => some (.d (.l k ((es.take h).drop l) (if mx.isSome then m == h else t && h == es.length)))
        | none => none
      | none => none
    | none => none
    else none
  | .r o k' off len t =>
    match H.obj o with
    | some (.sl _ _ es) =>
      if K.eq k k' && decide (off + len ≤ es.length) then
      match bnd len len mx with
      | some m => match bnd m m hi with
        | some h => match bnd 0 h lo with
          | some l => some (.r o k (off + l) (h - l) (if mx.isSome then m == h else t && h == len))
          | none => none
        | none => none
      | none => none
      else none
    | _ => none
  | _ => none
def iaddr (H : Heap) (k : K) (x : PV) (i : PV) : Option PV := match asI i with
  | none => none
  | some n => match x with
    | .d (.l k' es _) => match inR n es.length with
      | some j => match es[j]? with | some e => if K.eq k k' then some (.q e k 0) else none | none => none
      | none => none
    | .r o k' off len _ => match inR n len, H.obj o with
      | some j, some (.sl k'' _ es) => if K.eq k k' && K.eq k k'' && decide (off + len ≤ es.length) then some (.p o (off + j) 0) else none
      | _, _ => none
    | _ => none
def moveA (off : Nat) : PV → Option PV
  | .p o i c => some (.p o i (c + off))
  | .q v k c => some (.q v k (c + off))
  | _ => none
def fieldA (off : Nat) (k : K) : PV → Option PV
  | .d (.a cs) => if off + k.size ≤ cs.length then match mkD k ((cs.drop off).take k.size) with | some v => some (.d v) | none => none else none
  | .a cs => if off + k.size ≤ cs.length then mkP k ((cs.drop off).take k.size) else none
  | _ => none
def bytesOf (x : List UInt8) : List DV := x.map fun b => .i .u8 b.toNat
def elemsA (H : Heap) (k : K) : PV → Option (List DV)
  | .d (.l k' es _) => if K.eq k k' || es.isEmpty then some es else none
  | .r o k' off len _ => match H.obj o with
    | some (.sl k'' _ es) => if K.eq k k' && K.eq k k'' && decide (off + len ≤ es.length) then some ((es.drop off).take len) else none
    | _ => none
  | .d (.s x) => if K.eq k none then some (bytesOf x) else none
  | _ => none
def appA (H : Heap) (id : Nat) (k : K) (bytes : Nat) (x y : PV) : Option (PV × Heap) :=
  match elemsA H k y with
  | none => none
  | some ys => match x with
    | .d (.l k' es t) =>
      if t then
        if (es.length + ys.length) * bytes ≤ 2 ^ 47 then
          match es with
          | [] => some (.r id k 0 ys.length false, H.put id (some (.sl k 0 ys)))
          | e :: r => if K.eq k k' then match ys with
            | [] => some (x, H)
            | _ :: _ => some (.r id k 0 ((e :: r).length + ys.length) false, H.put id (some (.sl k 0 ((e :: r) ++ ys))))
            else none
        else none
      else none
    | .r o k' off len t => match H.obj o with
      | some (.sl k'' ro es) =>
        if K.eq k k' && K.eq k k'' && decide (off + len ≤ es.length) && decide ((len + ys.length) * bytes ≤ 2 ^ 47) then
          if t then match ys with
            | [] => some (x, H)
            | _ :: _ => some (.r id k 0 (len + ys.length) false, H.put id (some (.sl k 0 ((es.drop off).take len ++ ys))))
          else if ro ≤ off + len then
            some (.r id k 0 (len + ys.length) false, (H.put o none).put id (some (.sl k (ro - off) ((es.drop off).take len ++ ys))))
          else none
        else none
      | _ => none
    | _ => none
def aggA (z : List PV) : List (Nat × K × PV) → Option (List PV)
  | [] => some z
  | (off, k, v) :: r => if fits k v && decide (off + k.size ≤ z.length) then aggA (putAt z off v.cells) r else none
def bslA (H : Heap) (k : K) (es : List DV) : List (Nat × PV) → Option (List DV × List Nat)
  | [] => some (es, [])
  | (j, v) :: r => if fits k v && decide (j < es.length) then match pur H v with
    | some (x, os) => match bslA H k (es.set j x) r with
      | some (es', ps) => some (es', os ++ ps)
      | none => none
    | none => none
    else none
def bit64 (n : Int) : Option Nat := if 0 ≤ n ∧ n < 2 ^ 64 then some n.toNat else none
/-- Functions of the library that have no body. -/
def primA (p : Nat) (xs : List PV) : Option PV := match p, xs with
  | 0, [.d (.i .u64 x), .d (.i .u64 y), .d (.i .u64 c)] =>
    if c = 0 ∨ c = 1 then some (.t [.d (.i .u64 ((x + y + c) % 2 ^ 64)), .d (.i .u64 ((x + y + c) / 2 ^ 64))]) else none
  | 1, [.d (.i .u64 x), .d (.i .u64 y), .d (.i .u64 c)] =>
    if c = 0 ∨ c = 1 then some (.t [.d (.i .u64 ((x - y - c) % 2 ^ 64)), .d (.i .u64 (if x < y + c then 1 else 0))]) else none
  | _, _ => none
def mm2 (mx : Bool) : PV → PV → Option PV
  | .d (.i k x), .d (.i k' y) => if k = k' then some (.d (.i k (if mx then (if y > x then y else x) else (if y < x then y else x)))) else none
  | _, _ => none
def mmA (mx : Bool) : PV → List PV → Option PV
  | v, [] => some v
  | v, w :: r => match mm2 mx v w with | some x => mmA mx x r | none => none
def lenA (H : Heap) (str : Bool) : PV → Option Nat
  | .d (.l _ es _) => if str then none else some es.length
  | .r o _ off len _ => if str then none else match H.obj o with
    | some (.sl _ _ es) => if off + len ≤ es.length then some len else none
    | _ => none
  | .d (.s x) => if str then some x.length else none
  | _ => none

structure Env where
  G : Nat → Option (DV × K)
  ref : Nat → List PV → Heap → Option (PV × Heap)
  val : Nat → List DV → Option (PV × Bool)

def rd (E : Env) (fr : Fr) : Rand → PV
  | .t n => fr.get n
  | .c v => .d v
  | .g n => match E.G n with | some (v, k) => .q v k 0 | none => .u
  | .f n => .f n []
def opt (x : Option PV) (H : Heap) : Option (PV × Heap) := match x with | some v => some (v, H) | none => none
def optD (x : Option DV) (H : Heap) : Option (PV × Heap) := match x with | some v => some (.d v, H) | none => none

def evalOp (E : Env) (ρ : Rand → PV) (H : Heap) (id : Nat) : IOp → Option (PV × Heap)
  | .mov x => some (ρ x, H)
  | .pick c a b => match ρ c with
    | .d (.b true) => some (ρ a, H)
    | .d (.b false) => some (ρ b, H)
    | _ => none
  | .alloc k z => some (.p id 0 0, H.put id (some (.box k (.d z))))
  | .box k x => if fits k (ρ x) then some (.p id 0 0, H.put id (some (.box k (ρ x)))) else none
  | .agg z parts => match aggA (z.map .d) (parts.map fun x => (x.1, x.2.1, ρ x.2.2)) with
    | some cs => some (mkA cs, H)
    | none => none
  | .bsl k z len parts => match bslA H k (List.replicate len z) (parts.map fun x => (x.1, ρ x.2)) with
    | some (es, os) => some (.r id k 0 len true, (frz H os).put id (some (.sl k 0 es)))
    | none => none
  | .load k x => opt (loadA H k (ρ x)) H
  | .store k x y => match storeA H k (ρ x) (ρ y) with | some H' => some (.u, H') | none => none
  | .bin op x y => optD (binA op (ρ x) (ρ y)) H
  | .eqv neg n x y => match eqA n (ρ x) (ρ y) with
    | some e => some (.d (.b (if neg then !e else e)), H)
    | none => none
  | .eqb neg x y => match ρ x, ρ y with
    | .d (.b a), .d (.b b) => some (.d (.b (if neg then !(a == b) else a == b)), H)
    | _, _ => none
  | .isnil _ _ => none
  | .un op x => optD (unA op (ρ x)) H
  | .conv k x => match ρ x with | .d (.i _ n) => some (.d (.i k (k.wrap n)), H) | _ => none
  | .slS x lo hi => match ρ x with
    | .d (.s s) => match bnd s.length s.length (hi.map ρ) with
      | some h => match bnd 0 h (lo.map ρ) with
        | some l => some (.d (.s ((s.take h).drop l)), H)
        | none => none
      | none => none
    | _ => none
  | .sl k x lo hi mx => opt (slA H k (ρ x) (lo.map ρ) (hi.map ρ) (mx.map ρ)) H
  | .faddr off x => opt (moveA off (ρ x)) H
  | .field off k x => opt (fieldA off k (ρ x)) H
  | .iaddr k x i => opt (iaddr H k (ρ x) (ρ i)) H
  | .iaddrA len k x i => match asI (ρ i) with
    | some n => match inR n len with | some j => opt (moveA (j * k.size) (ρ x)) H | none => none
    | none => none
  | .idxS x i => match ρ x, asI (ρ i) with
    | .d (.s s), some n => if 0 ≤ n then match s[n.toNat]? with
      | some b => some (.d (.i .u8 b.toNat), H)
      | none => none
      else none
    | _, _ => none
  | .idxA len k x i => match asI (ρ i) with
    | some n => match inR n len with
      | some j => opt (fieldA (j * k.size) k (ρ x)) H
      | none => none
    | none => none
  | .len str x => match lenA H str (ρ x) with | some n => some (.d (.i .i64 n), H) | none => none
  | .app k bytes x y => appA H id k bytes (ρ x) (ρ y)
  | .call 0 f args => match purs H (args.map ρ) with
    | some (ds, os) => match E.val f ds with
      | some (r, _) => some (r, if os.isEmpty || r.scal then H else frz H os)
      | none => none
    | none => none
  | .call 1 f args => match purs H (args.map ρ) with
    | some (ds, os) => match E.val f ds with
      | some (.d (.l k es _), true) => some (.r id k 0 es.length false, (if os.isEmpty then H else frz H os).put id (some (.sl k 0 es)))
      | _ => none
    | none => none
  | .call _ f args => E.ref f (args.map ρ) H
  | .callv x args => match ρ x with
    | .f n caps => E.ref n (args.map ρ ++ caps) H
    | _ => none
  | .ext x i => match ρ x with
    | .t vs => opt vs[i]? H
    | _ => none
  | .mkf f caps => some (.f f (caps.map ρ), H)
  | .prim p args => opt (primA p (args.map ρ)) H
  | .nilck x => match ρ x with
    | .p o i c => some (.p o i c, H)
    | .q v k c => some (.q v k c, H)
    | .f n cs => some (.f n cs, H)
    | _ => none
  | .mksl k bytes z len cap => match asI (ρ len), asI (ρ cap) with
    | some n, some c => if 0 ≤ n ∧ n ≤ c ∧ c * bytes ≤ 2 ^ 47 then some (.r id k 0 n.toNat false, H.put id (some (.sl k 0 (List.replicate n.toNat z)))) else none
    | _, _ => none
  | .minmax mx args => match args.map ρ with
    | v :: r => opt (mmA mx v r) H
    | [] => none
  | .copy k x y => match ρ x with
    | .r o k' off len _ => match H.obj o, elemsA H k (ρ y) with
      | some (.sl k'' ro es), some ys =>
        if K.eq k k' && K.eq k k'' && decide (off + len ≤ es.length) && decide (ro ≤ off) then
          let n := min ys.length len
          some (.d (.i .i64 n), H.put o (some (.sl k ro (putAt es off (ys.take n)))))
        else none
      | _, _ => none
    | _ => none
  | .bad => none

/-- Does the operation make an object? -/
def IOp.adds : IOp → Bool
  | .alloc .. | .box .. | .bsl .. | .app .. | .mksl .. => true
  | .call m .. => m == 1
  | _ => false
def evalOps (E : Env) : List IOper → Nat → St → Option St
  | [], _, s => some s
  | o :: r, id, s =>
    let go : Option St := match evalOp E (rd E s.fr) s.H id o.op with
      | some (v, H) => evalOps E r (if o.op.adds then id + 1 else id) ⟨match o.dst with | some t => s.fr.set t v | none => s.fr, H⟩
      | none => none
    let no : Option St := evalOps E r (if o.op.adds then id + 1 else id) ⟨match o.dst with | some t => s.fr.set t (.t []) | none => s.fr, s.H⟩
    match o.g with
    | none => go
    | some (t, want) => match s.fr.get t with
      | .d (.b b) => if b == want then go else no
      | .t [] => no
      | _ => none
/-- A store that freezes nothing. -/
def calm (H : Heap) (p v : PV) : Bool := match p with
  | .p o _ _ => match H.obj o with
    | some (.box _ _) => true
    | some (.sl _ _ _) => match pur H v with | some (_, os) => os.isEmpty | none => false
    | none => false
  | _ => false
/-- An operation in a region whose order is open: nothing is frozen. -/
def evalOpD (E : Env) (ρ : Rand → PV) (H : Heap) (id : Nat) (x : IOp) : Option (PV × Heap) := match x with
  | .call 0 f args => match purs H (args.map ρ) with
    | some (ds, os) => match E.val f ds with
      | some (r, _) => if os.isEmpty || r.scal then some (r, H) else none
      | none => none
    | none => none
  | .call 1 f args => match purs H (args.map ρ) with
    | some (ds, os) => match E.val f ds with
      | some (.d (.l k es _), true) => if os.isEmpty then some (.r id k 0 es.length false, H.put id (some (.sl k 0 es))) else none
      | _ => none
    | none => none
  | .bsl k z len parts => match bslA H k (List.replicate len z) (parts.map fun x => (x.1, ρ x.2)) with
    | some (es, os) => if os.isEmpty then some (.r id k 0 len true, H.put id (some (.sl k 0 es))) else none
    | none => none
  | .store k x y => if calm H (ρ x) (ρ y) then match storeA H k (ρ x) (ρ y) with | some H' => some (.u, H') | none => none else none
  | .call _ _ _ | .callv _ _ | .app _ _ _ _ | .copy _ _ _ | .bad | .isnil _ _ => none
  | x => evalOp E ρ H id x
def stepD (E : Env) (o : IOper) (id : Nat) (s : St) : Option St :=
  let go : Option St := match evalOpD E (rd E s.fr) s.H id o.op with
    | some (v, H) => some ⟨match o.dst with | some t => s.fr.set t v | none => s.fr, H⟩
    | none => none
  let no : Option St := some ⟨match o.dst with | some t => s.fr.set t (.t []) | none => s.fr, s.H⟩
  match o.g with
  | none => go
  | some (t, want) => match s.fr.get t with
    | .d (.b b) => if b == want then go else no
    | .t [] => no
    | _ => none
def evalOpsD (E : Env) : List IOper → Nat → St → Option St
  | [], _, s => some s
  | o :: r, id, s => match stepD E o id s with
    | some s' => evalOpsD E r (if o.op.adds then id + 1 else id) s'
    | none => none
def nadds : List IOper → Nat
  | [] => 0
  | o :: r => (if o.op.adds then 1 else 0) + nadds r
inductive Ex where
  | norm
  | exit (id : Nat)
  | ret
  deriving Inhabited
abbrev Res := Option (Ex × St)
/-- A region: place for what it makes; its operations; what nobody reads any more is dropped. -/
def evalReg (E : Env) (ops : List IOper) (kill : List Nat) (s : St) : Option St :=
  match evalOps E ops s.H.length ⟨s.fr, s.H ++ List.replicate (nadds ops) none⟩ with
  | some s' => some ⟨s'.fr.drop kill, s'.H⟩
  | none => none
def evalRegD (E : Env) (ops : List IOper) (kill : List Nat) (s : St) : Option St :=
  match evalOpsD E ops s.H.length ⟨s.fr, s.H ++ List.replicate (nadds ops) none⟩ with
  | some s' => some ⟨s'.fr.drop kill, s'.H⟩
  | none => none
def evalC (E : Env) (lp : (St → Res) → St → Res) (base : Nat) : PC → St → Res
  | .skip, s => some (.norm, s)
  | .reg ops kill, s => match evalReg E ops kill s with | some s' => some (.norm, s') | none => none
  | .regD ops kill, s => match evalRegD E ops kill s with | some s' => some (.norm, s') | none => none
  | .seq a b, s => match evalC E lp base a s with
    | some (.norm, s') => evalC E lp base b s'
    | r => r
  | .cond c x y, s => match rd E s.fr c with
    | .d (.b true) => evalC E lp base x s
    | .d (.b false) => evalC E lp base y s
    | _ => none
  | .block id x, s => match evalC E lp base x s with
    | some (.exit j, s') => if j == id then some (.norm, s') else some (.exit j, s')
    | r => r
  | .loop live x, s => lp (fun s => evalC E lp base x (gc live base s)) s
  | .exit id, s => some (.exit id, s)
  | .ret, s => some (.ret, s)
  | .bad, _ => none
def results (fr : Fr) (H : Heap) : List RV → Option (List PV)
  | [] => some []
  | .t n :: r => match results fr H r with | some vs => some (fr.get n :: vs) | none => none
  | .c n k :: r => match loadA H k (fr.get n), results fr H r with
    | some v, some vs => some (v :: vs)
    | _, _ => none
def packed : List PV → PV
  | [v] => v
  | vs => .t vs
def evalF (E : Env) (lp : (St → Res) → St → Res) (F : PF) (args : List PV) (H : Heap) : Option (PV × Heap) :=
  if args.length = F.nargs then
    match evalC E lp H.length F.body ⟨Fr.ofArgs 0 args, H⟩ with
    | some (.norm, s) | some (.ret, s) => match results s.fr s.H F.results with
      | some vs => some (packed vs, s.H)
      | none => none
    | _ => none
  else none
/-- Rounds, at most n. -/
def lpN : Nat → (St → Res) → St → Res
  | 0, _, _ => none
  | n + 1, f, s => match f s with
    | some (.norm, s') => lpN n f s'
    | r => r
/-- The table: the resolved functions; functions that are taken by a contract of their own; package-level variables. -/
structure Tab where
  F : Nat → Option PF
  X : Nat → List DV → Option (PV × Bool)
  G : Nat → Option (DV × K)
mutual
def refN (T : Tab) : Nat → Nat → List PV → Heap → Option (PV × Heap)
  | 0, _, _, _ => none
  | n + 1, f, args, H => match T.F f with
    | some F => match evalF ⟨T.G, refN T n, valN T n⟩ (lpN n) F args H with
      | some (v, H') => some (gcV H.length v H')
      | none => none
    | none => none
def valN (T : Tab) : Nat → Nat → List DV → Option (PV × Bool)
  | 0, _, _ => none
  | n + 1, f, args => match T.F f with
    | some F => match evalF ⟨T.G, refN T n, valN T n⟩ (lpN n) F (args.map .d) [] with
      | some (v, H') => purT H' v
      | none => none
    | none => T.X f args
end
/-- slices.Clone: a fresh copy. -/
def cloneX (k : K) (b : Nat) : List DV → Option (PV × Bool)
  | [.l k' es _] => if (es.isEmpty || K.eq k k') && decide (es.length * b ≤ 2 ^ 47) then some (.d (.l k es false), true) else none
  | _ => none

/-! Which slots an operation looks at. -/
def Rand.uses : Rand → List Nat | .t n => [n] | _ => []
def usesO : Option Rand → List Nat | some r => r.uses | none => []
def usesL (l : List Rand) : List Nat := l.flatMap Rand.uses
def IOp.uses : IOp → List Nat
  | .mov x | .box _ x | .load _ x | .isnil _ x | .un _ x | .conv _ x | .faddr _ x | .field _ _ x | .len _ x | .ext x _ | .nilck x => x.uses
  | .pick c a b => c.uses ++ a.uses ++ b.uses
  | .alloc _ _ | .bad => []
  | .agg _ ps => ps.flatMap fun x => x.2.2.uses
  | .bsl _ _ _ ps => ps.flatMap fun x => x.2.uses
  | .store _ x y | .bin _ x y | .eqv _ _ x y | .eqb _ x y | .iaddr _ x y | .iaddrA _ _ x y | .idxS x y | .idxA _ _ x y | .app _ _ x y | .mksl _ _ _ x y | .copy _ x y => x.uses ++ y.uses
  | .slS x a b => x.uses ++ usesO a ++ usesO b
  | .sl _ x a b c => x.uses ++ usesO a ++ usesO b ++ usesO c
  | .call _ _ as | .mkf _ as | .prim _ as | .minmax _ as => usesL as
  | .callv x as => x.uses ++ usesL as
/-- It neither reads nor changes the heap. -/
def IOp.pure : IOp → Bool
  | .mov _ | .pick _ _ _ | .agg _ _ | .bin _ _ _ | .eqv _ _ _ _ | .eqb _ _ _ | .un _ _ | .conv _ _ | .slS _ _ _ | .faddr _ _ | .field _ _ _ | .iaddrA _ _ _ _ | .idxS _ _ | .idxA _ _ _ _ | .ext _ _ | .mkf _ _ | .prim _ _ | .nilck _ | .minmax _ _ => true
  | _ => false
/-- It changes objects. -/
def IOp.eff : IOp → Bool
  | .store _ _ _ => true
  | _ => false
def IOper.uses (o : IOper) : List Nat := o.op.uses ++ (match o.g with | some (t, _) => [t] | none => [])
/-- Two operations that may go either way. -/
def apartD (x y : IOper) : Bool :=
  (match x.dst with | some d => !(y.uses.contains d) && !(y.dst == some d) | none => true) &&
  (match y.dst with | some d => !(x.uses.contains d) | none => true) &&
  (!x.op.eff || y.op.pure) && (!y.op.eff || x.op.pure)
end Go.Sim
