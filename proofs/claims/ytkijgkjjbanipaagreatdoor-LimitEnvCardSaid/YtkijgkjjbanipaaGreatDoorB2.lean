/- Part 2 of the proof: CbIr, CbSimD, CbSimN. -/
import Derived.Test.YtkijgkjjbanipaaGreatDoorB1
set_option linter.all false
section
namespace Go.Sim
@[reducible] def K0 : K := none
@[reducible] def K1 (n : Nat) : K := some n
@[reducible] def I (n : Int) : DV := .i .i64 n
@[reducible] def O (d : Nat) (x : IOp) : IOper := ⟨some d, x, none⟩
@[reducible] def E (x : IOp) : IOper := ⟨none, x, none⟩
@[reducible] def OG (d t : Nat) (w : Bool) (x : IOp) : IOper := ⟨some d, x, some (t, w)⟩
@[reducible] def EG (t : Nat) (w : Bool) (x : IOp) : IOper := ⟨none, x, some (t, w)⟩
@[reducible] def sq (a b : PC) : PC := .seq a b
end Go.Sim
end
section
namespace Go.Sim
def kOf (P : Program) (t : TypeId) : K := match P.underlying t with
 | some (.struct _) | some (.array _ _) => some (P.cellsOf t)
 | _ => none
def zeroL (P : Program) : Nat → TypeId → List DV
 | 0, _ => []
 | n + 1, t => match P.underlying t with
  | some .bool => [.b false]
  | some (.int k) => [.i k 0]
  | some .string => [.s []]
  | some (.slice e) => [.l (kOf P e) [] true]
  | some (.struct fs) => fs.toList.flatMap fun f => zeroL P n f.type
  | some (.array m e) => (List.replicate m (zeroL P n e)).flatten
  | some (.pointer _) => [.np]
  | some (.map _ _) => [.nm]
  | some (.func _ _ _) => [.nf]
  | some (.interface _) => [.ni]
  | _ => []
def zeroD (P : Program) (t : TypeId) : DV := match kOf P t with
 | none => (zeroL P 12 t).headD .np
 | some _ => .a (zeroL P 12 t)
def kq (P : Program) (t : TypeId) : Option K := match P.underlying t with
 | some (.struct _) | some (.array _ _) => some (some (P.cellsOf t))
 | some _ => if P.cellsOf t = 1 then some none else none
 | none => none
def conC : DV → Value → Option DV
 | _, .bool b => some (.b b)
 | _, .int k n => some (.i k n)
 | _, .string s => some (.s s.data.toList)
 | .l k _ _, .slice none 0 0 => some (.l k [] true)
 | _, .slice none 0 0 => some (.l none [] true)
 | _, .pointer none => some .np
 | _, .nilFunc => some .nf
 | _, .nilIface => some .ni
 | _, .map none => some .nm
 | _, _ => none
def conL : List DV → List Value → Option (List DV)
 | z :: zs, v :: vs => match conC z v, conL zs vs with | some x, some xs => some (x :: xs) | _, _ => none
 | [], [] => some []
 | _, _ => none
def conD (P : Program) (t : Option TypeId) (v : Value) : Option DV := match v with
 | .agg cs => match t with
  | some t => (conL (zeroL P 12 t) cs.toList).map .a
  | none => none
 | v => conC (match t with | some t => zeroD P t | none => .np) v
def zq (P : Program) (t : TypeId) : Option DV := (kq P t).bind fun k => ((P.info? t).bind (·.zero)).bind fun v => (conD P (some t) v).bind fun z => if fits k (.d z) then some z else none
structure Names where
 f : FuncId → Option (Nat × Nat)
 g : Nat → Nat
def rand (P : Program) (N : Names) (t : Option TypeId) : Operand → Option Rand
 | .tmp n => some (.t n)
 | .const v => (conD P t v).map .c
 | .global g => some (.g (N.g g))
 | .func f => (N.f f).map fun x => .f x.1
def rands (P : Program) (N : Names) : List (Option TypeId) → List Operand → Option (List Rand)
 | _, [] => some []
 | ts, x :: xs => (rand P N (ts.headD none) x).bind fun r => (rands P N ts.tail xs).bind fun rs => some (r :: rs)
def randO (P : Program) (N : Names) : Option Operand → Option (Option Rand)
 | none => some none
 | some x => (rand P N none x).map some
def primNo (name origin : String) : Option Nat := if origin = "" then (if name = "math/bits.Add64" then some 0 else if name = "math/bits.Sub64" then some 1 else none) else none
def partsOf (P : Program) (N : Names) (pl : Nat → Option (Nat × TypeId)) : List (Nat × Operand) → Option (List (Nat × K × Rand))
 | [] => some []
 | (i, x) :: r => (pl i).bind fun p => (kq P p.2).bind fun k => (rand P N (some p.2) x).bind fun y => (partsOf P N pl r).bind fun ys => some ((p.1, k, y) :: ys)
def partsS (P : Program) (N : Names) (t : TypeId) : List (Nat × Operand) → Option (List (Nat × Rand))
 | [] => some []
 | (i, x) :: r => (rand P N (some t) x).bind fun y => (partsS P N t r).bind fun ys => some ((i, y) :: ys)
def elemK (P : Program) (t : TypeId) : Option (TypeId × K) := match P.underlying t with
 | some (.slice e) => (kq P e).bind fun k => some (e, k)
 | _ => none
def eqTile (P : Program) (rec : TypeId → Option (List Nat)) : List Field → Nat → Nat → Option (List Nat)
 | [], off, n => if off = n then some [] else none
 | f :: fs, off, n => if f.name = "_" ∨ f.offset ≠ off then none else (rec f.type).bind fun a => (eqTile P rec fs (off + P.cellsOf f.type) n).bind fun b => some (a ++ b)
def eqKs (P : Program) : Nat → TypeId → Option (List Nat)
 | 0, _ => none
 | d + 1, t => match P.underlying t with
  | some .bool => if P.cellsOf t = 1 then some [2] else none
  | some (.int _) => if P.cellsOf t = 1 then some [1] else none
  | some .string => if P.cellsOf t = 1 then some [3] else none
  | some (.struct fs) => if P.stoodInHeld t then none else eqTile P (eqKs P d) fs.toList 0 (P.cellsOf t)
  | _ => none
def kyOf : TypeDesc → Option Ky
 | .bool => some .b
 | .string => some .s
 | .int k => some (.i k)
 | _ => none
def mapKE (P : Program) (t : TypeId) : Option (TypeId × TypeId × Ky) := match P.underlying t with
 | some (.map k e) => (P.underlying k).bind fun d => (kyOf d).bind fun ky => some (k, e, ky)
 | _ => none
def invTab (P : Program) (N : Names) (name : String) : List (Nat × Nat × Nat) :=
 (List.range P.types.size).filterMap fun t => match P.info? t with
  | some i => match i.methods.find? (·.name == name), P.underlying t with
   | some _, some (.pointer _) => none
   | some m, some _ => if m.path = #[] then match m.func with
    | some (f, false) => match P.funcs[f]? with
     | some fn => if fn.body.isNone || fn.name == "runtime.NumGoroutine" then none else (N.f f).map fun x => (t, x.2, x.1)
     | none => none
    | _ => none
    else none
   | _, _ => none
  | none => none
def digCall (P : Program) (N : Names) (c : Call) : Option IOp :=
 let ts := c.argTypes.toList.map some
 match c.callee with
 | .value (.func f) => (P.funcs[f]?).bind fun fn => (rands P N ts c.args.toList).bind fun as0 =>
   if fn.body.isNone then (primNo fn.name fn.origin).bind fun p => some (.prim p as0)
   else if fn.name = "runtime.NumGoroutine" then none else (N.f f).bind fun x => some (.call x.2 x.1 as0)
 | .value (.tmp t) => (rands P N ts c.args.toList).bind fun as0 => some (.callv (.t t) as0)
 | .value _ => none
 | .builtin b => (rands P N ts c.args.toList).bind fun as0 => match b with
   | .len => match as0 with
    | [x] => (c.argTypes[0]?).bind fun t => match P.underlying t with
     | some .string => some (.len true x)
     | some (.slice _) => some (.len false x)
     | _ => none
    | _ => none
   | .append => match as0 with
    | [x, y] => (c.argTypes[0]?).bind fun t => (c.argTypes[1]?).bind fun u => (elemK P t).bind fun ek => (zq P ek.1).bind fun _ => match P.underlying u with
     | some (.slice _) | some .string => if P.bytesOf ek.1 = 0 then none else some (.app ek.2 (P.bytesOf ek.1) x y)
     | _ => none
    | _ => none
   | .clear => match as0 with
    | [x] => (c.argTypes[0]?).bind fun t => (elemK P t).bind fun ek => (zq P ek.1).bind fun z => some (.clr ek.2 z x)
    | _ => none
   | .copy => match as0 with
    | [x, y] => (c.argTypes[0]?).bind fun t => (c.argTypes[1]?).bind fun u => (elemK P t).bind fun ek => match P.underlying u with
     | some (.slice e') => if e' = ek.1 then some (.copy ek.2 x y) else none
     | _ => none
    | _ => none
   | .min => if as0.isEmpty then none else some (.minmax false as0)
   | .max => if as0.isEmpty then none else some (.minmax true as0)
   | _ => none
 | .invoke r m => (rand P N none r).bind fun r => (rands P N ts c.args.toList).bind fun as0 => some (.invk (invTab P N m) r as0)
def fieldAt (P : Program) (s : TypeId) (f : Nat) : Option Field := match P.underlying s with
 | some (.struct fs) => fs[f]?
 | _ => none
def nilD : Nat → Rand → Bool
 | 0, .c .ni => true
 | 1, .c .np => true
 | 2, .c .nm => true
 | 3, .c .nf => true
 | 4, .c (.l _ [] _) => true
 | _, _ => false
def kNil : TypeDesc → Option Nat
 | .interface _ => some 0
 | .pointer _ => some 1
 | .map _ _ => some 2
 | .func _ _ _ => some 3
 | .slice _ => some 4
 | _ => none
def digBin (P : Program) (op : BinOp) (t : TypeId) (x y : Rand) : Option IOp := match op with
 | .eql | .neq => match P.underlying t with
  | some (.int _) | some .string => some (.bin op x y)
  | some .bool => some (.eqb (op == .neq) x y)
  | some (.struct _) => if P.eqGuardType P.depth t then none else (eqKs P 8 t).bind fun ks => some (.eqv (op == .neq) ks x y)
  | some d => (kNil d).bind fun kd => if nilD kd y then some (.isnil (op == .neq) kd x) else if nilD kd x then some (.isnil (op == .neq) kd y) else none
  | none => none
 | _ => some (.bin op x y)
def digOp (P : Program) (N : Names) (o : Oper) : Option IOp :=
 let R := rand P N none
 match o.op with
 | .move x | .assign x => (rand P N (some o.type) x).bind fun x => some (.mov x)
 | .pick c a b => (R c).bind fun c => (R a).bind fun a => (R b).bind fun b => some (.pick c a b)
 | .alloc e => (kq P e).bind fun k => (zq P e).bind fun z => some (.alloc k z)
 | .box e x => (kq P e).bind fun k => (rand P N (some e) x).bind fun x => some (.box k x)
 | .build t parts => (zq P t).bind fun z => match P.underlying t with
  | some (.struct fs) => if fs.toList.all (fun f => (P.info? f.type).isSome) then (partsOf P N (fun i => (fs[i]?).map fun f => (f.offset, f.type)) parts.toList).bind fun ps => some (.agg z.cells ps) else none
  | some (.array _ e) => (kq P e).bind fun _ => (partsOf P N (fun i => some (i * P.cellsOf e, e)) parts.toList).bind fun ps => some (.agg z.cells ps)
  | _ => none
 | .buildSlice t n parts => (elemK P t).bind fun ek => (zq P ek.1).bind fun z => (partsS P N ek.1 parts.toList).bind fun ps => if n * ek.2.size ≤ 1000000 then some (.bsl ek.2 z n ps) else none
 | .load t x => (kq P t).bind fun k => (R x).bind fun x => some (.load k x)
 | .store t x y => (kq P t).bind fun k => (R x).bind fun x => (rand P N (some t) y).bind fun y => some (.store k x y)
 | .nilCheck x => (R x).bind fun x => some (.nilck x)
 | .binOp op t x y _ => (rand P N (some t) x).bind fun x => (rand P N (some t) y).bind fun y => digBin P op t x y
 | .unOp op _ x => (R x).bind fun x => some (.un op x)
 | .convert s d x => (R x).bind fun x => match P.underlying s, P.underlying d with
  | some (.int _), some (.int k) => some (.conv k x)
  | some .string, some .string => some (.slS x none none)
  | some (.slice e), some .string => match P.underlying e with | some (.int .u8) => some (.sb x) | _ => none
  | some .string, some (.slice e) => match P.underlying e with | some (.int .u8) => some (.bs x) | _ => none
  | _, _ => none
 | .makeFunc (.func f) first caps => if first.size = 0 then (N.f f).bind fun x => (rands P N [] caps.toList).bind fun cs => some (.mkf x.1 cs) else if caps.size = 0 then (N.f f).bind fun x => (rands P N [] first.toList).bind fun cs => some (.mkm x.1 cs) else none
 | .makeSlice t l c => (elemK P t).bind fun ek => (zq P ek.1).bind fun z => (R l).bind fun l => (R c).bind fun c => if P.bytesOf ek.1 = 0 then none else some (.mksl ek.2 (P.bytesOf ek.1) z l c)
 | .slice t x lo hi mx => (R x).bind fun x => (randO P N lo).bind fun lo => (randO P N hi).bind fun hi => (randO P N mx).bind fun mx => match P.underlying t with
   | some .string => if mx.isNone then some (.slS x lo hi) else none
   | some (.slice e) => (kq P e).bind fun k => if mx.isSome && hi.isNone then none else some (.sl k x lo hi mx)
   | _ => none
 | .fieldAddr s x f => (fieldAt P s f).bind fun fd => (kq P fd.type).bind fun k => (R x).bind fun x => if k.size = 0 then none else some (.faddr fd.offset x)
 | .field s x f => (fieldAt P s f).bind fun fd => (kq P fd.type).bind fun k => (R x).bind fun x => some (.field fd.offset k x)
 | .indexAddr t x i => (R x).bind fun x => (R i).bind fun i => match P.underlying t with
  | some (.array n e) => (kq P e).bind fun k => some (.iaddrA n k x i)
  | some (.slice e) => (kq P e).bind fun k => some (.iaddr k x i)
  | _ => none
 | .index t x i => (R x).bind fun x => (R i).bind fun i => match P.underlying t with
  | some (.array n e) => (kq P e).bind fun k => some (.idxA n k x i)
  | some .string => some (.idxS x i)
  | _ => none
 | .extract x i => (R x).bind fun x => some (.ext x i)
 | .call c => digCall P N c
 | .makeInterface t x => match P.underlying t with
  | some (.interface _) => none
  | _ => (kq P t).bind fun _ => (rand P N (some t) x).bind fun x => some (.mkif t x)
 | .typeAssert x _ t ok => match P.underlying t with
  | some (.interface _) => none
  | some _ => (R x).bind fun x => (zq P t).bind fun z => some (.tas t z ok x)
  | none => none
 | .makeMap t none => (mapKE P t).bind fun _ => some .mkmap
 | .lookup t x i ok => (mapKE P t).bind fun m => (R x).bind fun x => (rand P N (some m.1) i).bind fun i => (zq P m.2.1).bind fun z => some (.mget m.2.2 z ok x i)
 | .mapUpdate t x i v | .insert t x i v => (mapKE P t).bind fun m => (R x).bind fun x => (rand P N (some m.1) i).bind fun i => (kq P m.2.1).bind fun _ => (rand P N (some m.2.1) v).bind fun v => some (.mset m.2.2 x i v)
 | .range t x => match P.underlying t with
  | some .string => (R x).bind fun x => some (.rngS x)
  | _ => none
 | .defer c => match c.callee with
  | .value (.tmp t) => if c.args.isEmpty then some (.dfr (.t t) (.t gh)) else none
  | _ => none
 | .next it true => (R it).bind fun x => some (.nxt x)
 | _ => none
def digG (ops : Array Oper) : Option (Nat × Bool) → Option (Option (Nat × Bool))
 | none => some none
 | some (j, w) => ((ops[j]?).bind (·.dst)).bind fun t => some (some (t, w))
def isDefer : Op → Bool
 | .defer _ => true
 | _ => false
def digO (P : Program) (N : Names) (all : Array Oper) (o : Oper) : IOper :=
 match digOp P N o, digG all o.guard with
 | some x, some g => if isDefer o.op then (if g.isNone && o.dst.isNone then ⟨some gh, x, none⟩ else ⟨o.dst, .bad, none⟩) else ⟨o.dst, x, g⟩
 | _, _ => ⟨o.dst, .bad, none⟩
def befE (acc : List Nat) : List Edge → Nat
 | [] => 0
 | e :: es => if Region.binds .any e then 2 ^ e.on ||| (acc.getD e.on 0 ||| befE acc es) else befE acc es
def bef : List Oper → List Nat → List Nat
 | [], acc => acc
 | o :: r, acc => bef r (acc ++ [befE acc o.after.toList])
def drawOK (ops : List Oper) (l : List IOper) : Bool :=
 let B := bef ops []
 (List.range ops.length).all fun j => (ops.getD j default).after.toList.all (fun e => !Region.binds .any e || decide (e.on < j)) &&
  (List.range j).all fun i => (B.getD j 0).testBit i || apartD (l.getD i default) (l.getD j default)
def digC (P : Program) (N : Names) : Code → PC
 | .skip => .skip
 | .region _ ops d => if d then (if drawOK ops.toList (ops.toList.map (digO P N ops)) then .regD (ops.toList.map (digO P N ops)) (bef ops.toList []) [] else .bad) else .reg (ops.toList.map (digO P N ops)) []
 | .seq a b => .seq (digC P N a) (digC P N b)
 | .cond c x y => match rand P N none c with
  | some c => .cond c (digC P N x) (digC P N y)
  | none => .bad
 | .block id x => .block id (digC P N x)
 | .loop x => .loop [] (digC P N x)
 | .rangeFunc f ps a x => match rand P N none f with
  | some f => .rng f (gh + 1 + ps.toList.headD 0) ps.toList [] (digC P N a) (digC P N x)
  | none => .bad
 | .exit id => .exit id
 | .ret => .ret
 | _ => .bad
def digR (P : Program) : ResultVar → Option RV
 | .tmp t => some (.t t)
 | .cell a t => (kq P t).bind fun k => some (.c a k)
def digRs (P : Program) : List ResultVar → Option (List RV)
 | [] => some []
 | r :: l => (digR P r).bind fun x => (digRs P l).bind fun xs => some (x :: xs)
end Go.Sim
end
section
namespace Go.Sim
def bare : PC → PC
 | .reg ops _ => .reg ops []
 | .regD ops bf _ => .regD ops bf []
 | .seq a b => .seq (bare a) (bare b)
 | .cond c x y => .cond c (bare x) (bare y)
 | .block id x => .block id (bare x)
 | .loop _ x => .loop [] (bare x)
 | .rng f g ps _ a x => .rng f g ps [] (bare a) (bare x)
 | c => c
end Go.Sim
end
