/- Part 10 of the proof: CbSh25E, CbFast, CbMemo. -/
import Derived.Shelf.Lays
import Derived.Shelf.Strings.Count
import Derived.Test.YtkijgkjjbanipaaGreatDoorProg
import Derived.Test.YtkijgkjjbanipaaGreatDoorB3
import Derived.Test.YtkijgkjjbanipaaGreatDoorB6
import Derived.Test.YtkijgkjjbanipaaGreatDoorB5
set_option linter.all false
section
namespace Go.Proofs
open Go.Shelf
def Tryz.lays138_ren : Go.Shelf.Ren := ⟨fun | 138 => 271 | 195 => 285 | 218 => 286 | 143 => 287 | 219 => 301 | 217 => 310 | 225 => 311 | 224 => 312 | 267 => 313 | 266 => 323 | 314 => 324 | n => n, fun | 9 => 9 | 3 => 3 | 4 => 4 | 5 => 5 | 0 => 0 | 46 => 201 | 146 => 335 | 51 => 334 | n => n, fun | 1 => 1 | n => n⟩
theorem Tryz.lays138 : Go.Proofs.Lays.n138 Tryz.prog Tryz.lays138_ren := {
 mixed := by kernel_rfl
 f138 := Tryz.func271.trans (congrArg some (by kernel_rfl))
 f143 := Tryz.func287.trans (congrArg some (by kernel_rfl))
 f195 := Tryz.func285.trans (congrArg some (by kernel_rfl))
 f217 := Tryz.func310.trans (congrArg some (by kernel_rfl))
 f218 := Tryz.func286.trans (congrArg some (by kernel_rfl))
 f219 := Tryz.func301.trans (congrArg some (by kernel_rfl))
 f224 := Tryz.func312.trans (congrArg some (by kernel_rfl))
 f225 := Tryz.func311.trans (congrArg some (by kernel_rfl))
 f266 := Tryz.func323.trans (congrArg some (by kernel_rfl))
 f267 := Tryz.func313.trans (congrArg some (by kernel_rfl))
 f314 := Tryz.func324.trans (congrArg some (by kernel_rfl))
 t0 := Tryz.underlying0
 a0 := Tryz.isAgg0
 z0 := Tryz.sizeOf0
 v0 := Tryz.zeroValue0
 t3 := Tryz.underlying3
 a3 := Tryz.isAgg3
 z3 := Tryz.sizeOf3
 v3 := Tryz.zeroValue3
 t4 := Tryz.underlying4
 a4 := Tryz.isAgg4
 z4 := Tryz.sizeOf4
 v4 := Tryz.zeroValue4
 t5 := Tryz.underlying5
 a5 := Tryz.isAgg5
 z5 := Tryz.sizeOf5
 v5 := Tryz.zeroValue5
 t9 := Tryz.underlying9
 a9 := Tryz.isAgg9
 z9 := Tryz.sizeOf9
 v9 := Tryz.zeroValue9
 t46 := Tryz.underlying201
 a46 := Tryz.isAgg201
 z46 := Tryz.sizeOf201
 v46 := Tryz.zeroValue201
 t51 := Tryz.underlying334
 a51 := Tryz.isAgg334
 z51 := Tryz.sizeOf334
 v51 := Tryz.zeroValue334
 t146 := Tryz.underlying335
 a146 := Tryz.isAgg335
 z146 := Tryz.sizeOf335
 v146 := Tryz.zeroValue335
 g1 := by kernel_rfl }
end Go.Proofs
end
section
namespace Go.Sim
noncomputable section
def kget (fr : Fr) (t : Nat) : PV := @List.rec (Nat × PV) (fun _ => PV) .u (fun p _ ih => @Prod.rec Nat PV (fun _ => PV) (fun j v => @Bool.rec (fun _ => PV) ih v (Nat.beq j t)) p) fr
theorem beq_ne {j t : Nat} (h : ¬ j = t) : Nat.beq j t = false := by
 cases e : Nat.beq j t with
 | false => rfl
 | true => exact absurd (Nat.eq_of_beq_eq_true e) h
theorem kget_eq : ∀ fr t, kget fr t = Fr.get fr t
 | [], t => rfl
 | (j, v) :: r, t => by
  have ih := kget_eq r t
  show @Bool.rec (fun _ => PV) (kget r t) v (Nat.beq j t) = _
  rw [ih, Fr.get]
  by_cases h : j = t
  ·subst h; rw [if_pos rfl, Nat.beq_refl]
  ·rw [if_neg h, beq_ne h]
def kset (fr : Fr) (t : Nat) (v : PV) : Fr := @List.rec (Nat × PV) (fun _ => Fr) [(t, v)] (fun p r ih => @Prod.rec Nat PV (fun _ => Fr) (fun j x => @Bool.rec (fun _ => Fr) (@Bool.rec (fun _ => Fr) ((j, x) :: ih) ((t, v) :: (j, x) :: r) (Nat.ble (Nat.succ j) t)) ((t, v) :: r) (Nat.beq j t)) p) fr
theorem kset_eq : ∀ fr t v, kset fr t v = Fr.set fr t v
 | [], t, v => rfl
 | (j, x) :: r, t, v => by
  have ih := kset_eq r t v
  show @Bool.rec (fun _ => Fr) (@Bool.rec (fun _ => Fr) ((j, x) :: kset r t v) ((t, v) :: (j, x) :: r) (Nat.ble (Nat.succ j) t)) ((t, v) :: r) (Nat.beq j t) = _
  rw [ih, Fr.set]
  by_cases h : j = t
  ·subst h; rw [if_pos rfl, Nat.beq_refl]
  ·rw [if_neg h, beq_ne h]
   show @Bool.rec (fun _ => Fr) _ _ (Nat.ble (Nat.succ j) t) = _
   by_cases h2 : j < t
   ·rw [if_pos h2, Nat.ble_eq_true_of_le h2]
   ·rw [if_neg h2, Bool.eq_false_iff.2 (fun e => h2 (Nat.le_of_ble_eq_true e))]
def kmem (l : List Nat) (j : Nat) : Bool := @List.rec Nat (fun _ => Bool) false (fun x _ ih => @Bool.rec (fun _ => Bool) ih true (Nat.beq x j)) l
theorem kmem_eq : ∀ l j, kmem l j = l.contains j
 | [], j => rfl
 | x :: r, j => by
  have ih := kmem_eq r j
  show @Bool.rec (fun _ => Bool) (kmem r j) true (Nat.beq x j) = _
  rw [ih, List.contains_cons]
  by_cases h : x = j
  ·subst h; rw [Nat.beq_refl]; simp
  ·rw [beq_ne h]; have : (j == x) = false := by simpa using fun e => h e.symm
   rw [this]; rfl
def kdrop (l : List Nat) (fr : Fr) : Fr := @List.rec (Nat × PV) (fun _ => Fr) [] (fun p _ ih => @Prod.rec Nat PV (fun _ => Fr) (fun j v => @Bool.rec (fun _ => Fr) ((j, v) :: ih) (@Bool.rec (fun _ => Fr) ((j, v) :: ih) ih (Nat.ble (Nat.succ j) 100000)) (kmem l j)) p) fr
theorem kdrop_eq (l : List Nat) : ∀ fr, kdrop l fr = Fr.drop l fr
 | [] => rfl
 | (j, v) :: r => by
  have ih := kdrop_eq l r
  show @Bool.rec (fun _ => Fr) ((j, v) :: kdrop l r) (@Bool.rec (fun _ => Fr) ((j, v) :: kdrop l r) (kdrop l r) (Nat.blt j gh)) (kmem l j) = _
  rw [ih, Fr.drop, kmem_eq]
  cases l.contains j <;> cases Nat.blt j gh <;> rfl
def kmap {α β : Type} (f : α → β) (l : List α) : List β := @List.rec α (fun _ => List β) [] (fun x _ ih => f x :: ih) l
theorem kmap_eq {α β : Type} (f : α → β) : ∀ l, kmap f l = l.map f
 | [] => rfl
 | x :: r => by show f x :: kmap f r = _; rw [kmap_eq f r]; rfl
def kapp {α : Type} (l m : List α) : List α := @List.rec α (fun _ => List α) m (fun x _ ih => x :: ih) l
theorem kapp_eq {α : Type} : ∀ (l m : List α), kapp l m = l ++ m
 | [], m => rfl
 | x :: r, m => by show x :: kapp r m = _; rw [kapp_eq r m]; rfl
def klen {α : Type} (l : List α) : Nat := @List.rec α (fun _ => Nat) 0 (fun _ _ ih => Nat.succ ih) l
theorem klen_eq {α : Type} : ∀ (l : List α), klen l = l.length
 | [] => rfl
 | x :: r => by show Nat.succ (klen r) = _; rw [klen_eq r]; rfl
def knth {α : Type} (l : List α) : Nat → Option α := @List.rec α (fun _ => Nat → Option α) (fun _ => none) (fun x _ ih n => @Nat.rec (fun _ => Option α) (some x) (fun m _ => ih m) n) l
theorem knth_eq {α : Type} : ∀ (l : List α) (n : Nat), knth l n = l[n]?
 | [], n => rfl
 | x :: r, 0 => rfl
 | x :: r, n + 1 => by show knth r n = _; rw [knth_eq r n]; rfl
def krep {α : Type} (x : α) (n : Nat) (l : List α) : List α := @Nat.rec (fun _ => List α) l (fun _ ih => x :: ih) n
theorem krep_eq {α : Type} (x : α) (l : List α) : ∀ n, krep x n l = List.replicate n x ++ l
 | 0 => rfl
 | n + 1 => by show x :: krep x n l = _; rw [krep_eq x l n]; rfl
def kobj (H : Heap) (o : Nat) : Option Obj := @Option.rec (Option Obj) (fun _ => Option Obj) none (fun x => x) (knth H o)
theorem kobj_eq (H : Heap) (o : Nat) : kobj H o = Heap.obj H o := by
 unfold kobj Heap.obj; rw [knth_eq]; cases H[o]? <;> rfl
def krd (E : Env) (fr : Fr) (x : Rand) : PV := @Rand.rec (fun _ => PV) (fun t => kget fr t) (fun v => .d v) (fun n => match E.G n with | some (v, k) => .q v k 0 | none => .u) (fun n => .f n []) x
theorem krd_eq (E : Env) (fr : Fr) : krd E fr = rd E fr := by
 funext x
 cases x with
 | t n => exact kget_eq fr n
 | c v => rfl
 | f n => rfl
 | g n => simp only [krd, rd]; cases E.G n <;> rfl
def kloadA : Heap → K → PV → Option PV := loadA
def kstoreA : Heap → K → PV → PV → Option Heap := storeA
def kiaddr : Heap → K → PV → PV → Option PV := iaddr
def kbinA : BinOp → PV → PV → Option DV := binA
def kmoveA : Nat → PV → Option PV := moveA
def klenA : Heap → Bool → PV → Option Nat := lenA
def k_mov (x : Rand) (E : Env) (fr : Fr) (H : Heap) (_id : Nat) : Option (PV × Heap) := some (krd E fr x, H)
def k_pick (c : Rand) (a : Rand) (b : Rand) (E : Env) (fr : Fr) (H : Heap) (_id : Nat) : Option (PV × Heap) := match krd E fr c with
  | .d (.b true) => some (krd E fr a, H)
  | .d (.b false) => some (krd E fr b, H)
  | _ => none
def k_alloc (k : K) (z : DV) (_E : Env) (_fr : Fr) (H : Heap) (id : Nat) : Option (PV × Heap) := some (.p id 0 0, H.put id (some (.box k (.d z))))
def k_box (k : K) (x : Rand) (E : Env) (fr : Fr) (H : Heap) (id : Nat) : Option (PV × Heap) := if fits k (krd E fr x) then some (.p id 0 0, H.put id (some (.box k (krd E fr x)))) else none
def k_agg (z : List DV) (parts : List (Nat × K × Rand)) (E : Env) (fr : Fr) (H : Heap) (_id : Nat) : Option (PV × Heap) := match aggA (z.map .d) (parts.map fun x => (x.1, x.2.1, krd E fr x.2.2)) with
  | some cs => some (mkA cs, H)
  | none => none
def k_bsl (k : K) (z : DV) (len : Nat) (parts : List (Nat × Rand)) (E : Env) (fr : Fr) (H : Heap) (id : Nat) : Option (PV × Heap) := match bslA H k (List.replicate len z) (parts.map fun x => (x.1, krd E fr x.2)) with
  | some (es, os) => some (.r id k 0 len true, (frz H os).put id (some (.sl k 0 es)))
  | none => none
def k_load (k : K) (x : Rand) (E : Env) (fr : Fr) (H : Heap) (_id : Nat) : Option (PV × Heap) := opt (kloadA H k (krd E fr x)) H
def k_store (k : K) (x : Rand) (y : Rand) (E : Env) (fr : Fr) (H : Heap) (_id : Nat) : Option (PV × Heap) := match kstoreA H k (krd E fr x) (krd E fr y) with | some H' => some (.u, H') | none => none
def k_bin (op : BinOp) (x : Rand) (y : Rand) (E : Env) (fr : Fr) (H : Heap) (_id : Nat) : Option (PV × Heap) := optD (kbinA op (krd E fr x) (krd E fr y)) H
def k_eqv (neg : Bool) (n : List Nat) (x : Rand) (y : Rand) (E : Env) (fr : Fr) (H : Heap) (_id : Nat) : Option (PV × Heap) := match eqA n (krd E fr x) (krd E fr y) with
  | some e => some (.d (.b (if neg then !e else e)), H)
  | none => none
def k_eqb (neg : Bool) (x : Rand) (y : Rand) (E : Env) (fr : Fr) (H : Heap) (_id : Nat) : Option (PV × Heap) := match krd E fr x, krd E fr y with
  | .d (.b a), .d (.b b) => some (.d (.b (if neg then !(a == b) else a == b)), H)
  | _, _ => none
def k_isnil (neg : Bool) (kd : Nat) (x : Rand) (E : Env) (fr : Fr) (H : Heap) (_id : Nat) : Option (PV × Heap) := match nilA kd (krd E fr x) with | some b => some (.d (.b (if neg then !b else b)), H) | none => none
def k_un (op : UnOp) (x : Rand) (E : Env) (fr : Fr) (H : Heap) (_id : Nat) : Option (PV × Heap) := optD (unA op (krd E fr x)) H
def k_conv (k : IntKind) (x : Rand) (E : Env) (fr : Fr) (H : Heap) (_id : Nat) : Option (PV × Heap) := match krd E fr x with | .d (.i _ n) => some (.d (.i k (k.wrap n)), H) | _ => none
def k_slS (x : Rand) (lo : Option Rand) (hi : Option Rand) (E : Env) (fr : Fr) (H : Heap) (_id : Nat) : Option (PV × Heap) := match krd E fr x with
  | .d (.s s) => match bnd s.length s.length (hi.map (krd E fr)) with
   | some h => match bnd 0 h (lo.map (krd E fr)) with
    | some l => some (.d (.s ((s.take h).drop l)), H)
    | none => none
   | none => none
  | _ => none
def k_sl (k : K) (x : Rand) (lo : Option Rand) (hi : Option Rand) (mx : Option Rand) (E : Env) (fr : Fr) (H : Heap) (_id : Nat) : Option (PV × Heap) := opt (slA H k (krd E fr x) (lo.map (krd E fr)) (hi.map (krd E fr)) (mx.map (krd E fr))) H
def k_faddr (off : Nat) (x : Rand) (E : Env) (fr : Fr) (H : Heap) (_id : Nat) : Option (PV × Heap) := opt (kmoveA off (krd E fr x)) H
def k_field (off : Nat) (k : K) (x : Rand) (E : Env) (fr : Fr) (H : Heap) (_id : Nat) : Option (PV × Heap) := opt (fieldA off k (krd E fr x)) H
def k_iaddr (k : K) (x : Rand) (i : Rand) (E : Env) (fr : Fr) (H : Heap) (_id : Nat) : Option (PV × Heap) := opt (kiaddr H k (krd E fr x) (krd E fr i)) H
def k_iaddrA (len : Nat) (k : K) (x : Rand) (i : Rand) (E : Env) (fr : Fr) (H : Heap) (_id : Nat) : Option (PV × Heap) := match asI (krd E fr i) with
  | some n => match inR n len with | some j => opt (kmoveA (j * k.size) (krd E fr x)) H | none => none
  | none => none
def k_idxS (x : Rand) (i : Rand) (E : Env) (fr : Fr) (H : Heap) (_id : Nat) : Option (PV × Heap) := match krd E fr x, asI (krd E fr i) with
  | .d (.s s), some n => if 0 ≤ n then match s[n.toNat]? with
   | some b => some (.d (.i .u8 b.toNat), H)
   | none => none
   else none
  | _, _ => none
def k_idxA (len : Nat) (k : K) (x : Rand) (i : Rand) (E : Env) (fr : Fr) (H : Heap) (_id : Nat) : Option (PV × Heap) := match asI (krd E fr i) with
  | some n => match inR n len with
   | some j => opt (fieldA (j * k.size) k (krd E fr x)) H
   | none => none
  | none => none
def k_len (str : Bool) (x : Rand) (E : Env) (fr : Fr) (H : Heap) (_id : Nat) : Option (PV × Heap) := match klenA H str (krd E fr x) with | some n => some (.d (.i .i64 n), H) | none => none
def k_app (k : K) (bytes : Nat) (x : Rand) (y : Rand) (E : Env) (fr : Fr) (H : Heap) (id : Nat) : Option (PV × Heap) := appA H id k bytes (krd E fr x) (krd E fr y)
def k_call0 (f : Nat) (args : List Rand) (E : Env) (fr : Fr) (H : Heap) (_id : Nat) : Option (PV × Heap) := match purs H (kmap (krd E fr) args) with
  | some (ds, os) => match E.val f ds with
   | some (r, _) => some (r, if os.isEmpty || r.scal then H else frz H os)
   | none => none
  | none => none
def k_call1 (f : Nat) (args : List Rand) (E : Env) (fr : Fr) (H : Heap) (id : Nat) : Option (PV × Heap) := match purs H (kmap (krd E fr) args) with
  | some (ds, os) => match E.val f ds with
   | some (.d (.l k es _), true) => some (.r id k 0 es.length false, (if os.isEmpty then H else frz H os).put id (some (.sl k 0 es)))
   | _ => none
  | none => none
def k_call2 (f : Nat) (args : List Rand) (E : Env) (fr : Fr) (H : Heap) (_id : Nat) : Option (PV × Heap) := E.ref f (kmap (krd E fr) args) H
def k_call (mode f : Nat) (args : List Rand) : Env → Fr → Heap → Nat → Option (PV × Heap) := @Nat.rec (fun _ => Env → Fr → Heap → Nat → Option (PV × Heap)) (k_call0 f args) (fun m _ => @Nat.rec (fun _ => Env → Fr → Heap → Nat → Option (PV × Heap)) (k_call1 f args) (fun _ _ => k_call2 f args) m) mode
def k_callv (x : Rand) (args : List Rand) (E : Env) (fr : Fr) (H : Heap) (_id : Nat) : Option (PV × Heap) := match krd E fr x with
  | .f n caps => match (if caps.isEmpty then plains (kmap (krd E fr) args) else none) with
   | some ds => match E.val n ds with
    | some (r, _) => some (r, H)
    | none => none
   | none => E.ref n (kmap (krd E fr) args ++ caps) H
  | .m n firsts => match plains (firsts ++ kmap (krd E fr) args) with
   | some ds => match E.val n ds with
    | some (r, _) => some (r, H)
    | none => none
   | none => E.ref n (firsts ++ kmap (krd E fr) args) H
  | .h o => E.yld o (kmap (krd E fr) args) H
  | _ => none
def k_ext (x : Rand) (i : Nat) (E : Env) (fr : Fr) (H : Heap) (_id : Nat) : Option (PV × Heap) := match krd E fr x with
  | .t vs => opt vs[i]? H
  | _ => none
def k_mkf (f : Nat) (caps : List Rand) (E : Env) (fr : Fr) (H : Heap) (_id : Nat) : Option (PV × Heap) := some (.f f (kmap (krd E fr) caps), H)
def k_mkm (f : Nat) (caps : List Rand) (E : Env) (fr : Fr) (H : Heap) (_id : Nat) : Option (PV × Heap) := some (.m f (kmap (krd E fr) caps), H)
def k_prim (p : Nat) (args : List Rand) (E : Env) (fr : Fr) (H : Heap) (_id : Nat) : Option (PV × Heap) := opt (primA p (kmap (krd E fr) args)) H
def k_nilck (x : Rand) (E : Env) (fr : Fr) (H : Heap) (_id : Nat) : Option (PV × Heap) := match krd E fr x with
  | .p o i c => some (.p o i c, H)
  | .q v k c => some (.q v k c, H)
  | .f n cs => some (.f n cs, H)
  | _ => none
def k_mksl (k : K) (bytes : Nat) (z : DV) (len : Rand) (cap : Rand) (E : Env) (fr : Fr) (H : Heap) (id : Nat) : Option (PV × Heap) := match asI (krd E fr len), asI (krd E fr cap) with
  | some n, some c => if 0 ≤ n ∧ n ≤ c ∧ c * bytes ≤ 2 ^ 47 then some (.r id k 0 n.toNat false, H.put id (some (.sl k 0 (List.replicate n.toNat z)))) else none
  | _, _ => none
def k_minmax (mx : Bool) (args : List Rand) (E : Env) (fr : Fr) (H : Heap) (_id : Nat) : Option (PV × Heap) := match kmap (krd E fr) args with
  | v :: r => opt (mmA mx v r) H
  | [] => none
def k_copy (k : K) (x : Rand) (y : Rand) (E : Env) (fr : Fr) (H : Heap) (_id : Nat) : Option (PV × Heap) := match krd E fr x with
  | .r o k' off len _ => match kobj H o, elemsA H k (krd E fr y) with
   | some (.sl k'' ro es), some ys =>
    if K.eq k k' && K.eq k k'' && decide (off + len ≤ es.length) && decide (ro ≤ off) then
     let n := min ys.length len
     some (.d (.i .i64 n), H.put o (some (.sl k ro (putAt es off (ys.take n)))))
    else none
   | _, _ => none
  | _ => none
def k_clr (k : K) (z : DV) (x : Rand) (E : Env) (fr : Fr) (H : Heap) (_id : Nat) : Option (PV × Heap) := match krd E fr x with
  | .r o k' off len _ => match kobj H o with
   | some (.sl k'' ro es) =>
    if K.eq k k' && K.eq k k'' && decide (off + len ≤ es.length) && decide (ro ≤ off) then some (.t [], H.put o (some (.sl k ro (putAt es off (List.replicate len z))))) else none
   | _ => none
  | .d (.l _ [] _) => some (.t [], H)
  | _ => none
def k_mkif (t : Nat) (x : Rand) (E : Env) (fr : Fr) (H : Heap) (_id : Nat) : Option (PV × Heap) := match pur H (krd E fr x) with
  | some (v, os) => some (.d (.ifc t v), frz H os)
  | none => some (.w t (krd E fr x), H)
def k_tas (t : Nat) (z : DV) (ok : Bool) (x : Rand) (E : Env) (fr : Fr) (H : Heap) (_id : Nat) : Option (PV × Heap) := match krd E fr x with
  | .d (.ifc u v) => if u = t then some (if ok then .t [.d v, .d (.b true)] else .d v, H) else if ok then some (.t [.d z, .d (.b false)], H) else none
  | .w u v => if u = t then some (if ok then .t [v, .d (.b true)] else v, H) else if ok then some (.t [.d z, .d (.b false)], H) else none
  | .d .ni => if ok then some (.t [.d z, .d (.b false)], H) else none
  | _ => none
def k_invk (tab : List (Nat × Nat × Nat)) (x : Rand) (args : List Rand) (E : Env) (fr : Fr) (H : Heap) (_id : Nat) : Option (PV × Heap) := match krd E fr x with
  | .d (.ifc u v) => match lookT u tab with
   | some (0, f) => match purs H (kmap (krd E fr) args) with
    | some (ds, os) => match E.val f (v :: ds) with
     | some (r, _) => some (r, if os.isEmpty || r.scal then H else frz H os)
     | none => none
    | none => none
   | some (_, f) => E.ref f (.d v :: kmap (krd E fr) args) H
   | none => none
  | _ => none
def k_mkmap  (_E : Env) (_fr : Fr) (H : Heap) (id : Nat) : Option (PV × Heap) := some (.h id, H.put id (some (.mp [])))
def k_mget (ky : Ky) (z : DV) (ok : Bool) (x : Rand) (i : Rand) (E : Env) (fr : Fr) (H : Heap) (_id : Nat) : Option (PV × Heap) := match krd E fr i, krd E fr x with
  | .d k, .h o => if kyOK ky k then match kobj H o with
   | some (.mp es) => match getK k es with
    | some r => some (if ok then .t [.d (r.getD z), .d (.b r.isSome)] else .d (r.getD z), H)
    | none => none
   | _ => none
   else none
  | _, _ => none
def k_mset (ky : Ky) (x : Rand) (i : Rand) (v : Rand) (E : Env) (fr : Fr) (H : Heap) (_id : Nat) : Option (PV × Heap) := match krd E fr i, krd E fr x, pur H (krd E fr v) with
  | .d k, .h o, some (xv, os) => if kyOK ky k then match kobj H o with
   | some (.mp es) => match putK k xv es with
    | some es' => some (.u, (frz H os).put o (some (.mp es')))
    | none => none
   | _ => none
   else none
  | _, _, _ => none
def k_mdel (ky : Ky) (x : Rand) (i : Rand) (E : Env) (fr : Fr) (H : Heap) (_id : Nat) : Option (PV × Heap) := match krd E fr i, krd E fr x with
  | .d k, .h o => if kyOK ky k then match kobj H o with
   | some (.mp es) => match delK k es with
    | some es' => some (.u, H.put o (some (.mp es')))
    | none => none
   | _ => none
   else none
  | _, _ => none
def k_mlen (x : Rand) (E : Env) (fr : Fr) (H : Heap) (_id : Nat) : Option (PV × Heap) := match krd E fr x with
  | .h o => match kobj H o with
   | some (.mp es) => some (.d (.i .i64 es.length), H)
   | _ => none
  | _ => none
def k_rngS (x : Rand) (E : Env) (fr : Fr) (H : Heap) (id : Nat) : Option (PV × Heap) := match krd E fr x with
  | .d (.s l) => some (.h id, H.put id (some (.si l 0)))
  | _ => none
def k_nxt (x : Rand) (E : Env) (fr : Fr) (H : Heap) (_id : Nat) : Option (PV × Heap) := match krd E fr x with
  | .h o => match kobj H o with
   | some (.si l pos) =>
    if pos < l.length then
     let c := Utf8.decode ⟨l.toArray⟩ pos
     some (.t [.d (.b true), .d (.i .i64 pos), .d (.i .i32 c.1)], H.put o (some (.si l (pos + c.2))))
    else some (.t [.d (.b false)], H)
   | _ => none
  | _ => none
def k_sb (x : Rand) (E : Env) (fr : Fr) (H : Heap) (_id : Nat) : Option (PV × Heap) := match krd E fr x with
  | .d (.s _) => none
  | y => match elemsA H none y with
   | some es => match dbytes es with | some l => some (.d (.s l), H) | none => none
   | none => none
def k_bs (x : Rand) (E : Env) (fr : Fr) (H : Heap) (_id : Nat) : Option (PV × Heap) := match krd E fr x with
  | .d (.s l) => some (.d (.l none (bytesOf l) false), H)
  | _ => none
def k_dfr (x : Rand) (y : Rand) (E : Env) (fr : Fr) (H : Heap) (_id : Nat) : Option (PV × Heap) := match krd E fr x, krd E fr y with
  | .f n caps, .u => some (.g (.f n caps), H)
  | _, _ => none
def k_bad  (_E : Env) (_fr : Fr) (_H : Heap) (_id : Nat) : Option (PV × Heap) := none
def kop (op : IOp) : Env → Fr → Heap → Nat → Option (PV × Heap) := @IOp.rec (fun _ => Env → Fr → Heap → Nat → Option (PV × Heap)) k_mov k_pick k_alloc k_box k_agg k_bsl k_load k_store k_bin k_eqv k_eqb k_isnil k_un k_conv k_slS k_sl k_faddr k_field k_iaddr k_iaddrA k_idxS k_idxA k_len k_app k_call k_callv k_ext k_mkf k_mkm k_prim k_nilck k_mksl k_minmax k_copy k_clr k_mkif k_tas k_invk k_mkmap k_mget k_mset k_mdel k_mlen k_rngS k_nxt k_sb k_bs k_dfr k_bad op
theorem kop_eq (op : IOp) (E : Env) (fr : Fr) (H : Heap) (id : Nat) : kop op E fr H id = evalOp E (rd E fr) H id op := by
 rw [← krd_eq]
 have ko : kobj = Heap.obj := by funext H o; exact kobj_eq H o
 cases op with
 | mov x => show k_mov x E fr H id = _; simp only [k_mov, evalOp] <;> rfl
 | pick c a b => show k_pick c a b E fr H id = _; simp only [k_pick, evalOp] <;> rfl
 | alloc k z => show k_alloc k z E fr H id = _; simp only [k_alloc, evalOp] <;> rfl
 | box k x => show k_box k x E fr H id = _; simp only [k_box, evalOp] <;> rfl
 | agg z parts => show k_agg z parts E fr H id = _; simp only [k_agg, evalOp] <;> rfl
 | bsl k z len parts => show k_bsl k z len parts E fr H id = _; simp only [k_bsl, evalOp] <;> rfl
 | load k x => show k_load k x E fr H id = _; simp only [k_load, evalOp, kloadA] <;> rfl
 | store k x y => show k_store k x y E fr H id = _; simp only [k_store, evalOp, kstoreA] <;> rfl
 | bin op x y => show k_bin op x y E fr H id = _; simp only [k_bin, evalOp, kbinA] <;> rfl
 | eqv neg n x y => show k_eqv neg n x y E fr H id = _; simp only [k_eqv, evalOp] <;> rfl
 | eqb neg x y => show k_eqb neg x y E fr H id = _; simp only [k_eqb, evalOp] <;> rfl
 | isnil neg kd x => show k_isnil neg kd x E fr H id = _; simp only [k_isnil, evalOp] <;> rfl
 | un op x => show k_un op x E fr H id = _; simp only [k_un, evalOp] <;> rfl
 | conv k x => show k_conv k x E fr H id = _; simp only [k_conv, evalOp] <;> rfl
 | slS x lo hi => show k_slS x lo hi E fr H id = _; simp only [k_slS, evalOp] <;> rfl
 | sl k x lo hi mx => show k_sl k x lo hi mx E fr H id = _; simp only [k_sl, evalOp] <;> rfl
 | faddr off x => show k_faddr off x E fr H id = _; simp only [k_faddr, evalOp, kmoveA] <;> rfl
 | field off k x => show k_field off k x E fr H id = _; simp only [k_field, evalOp] <;> rfl
 | iaddr k x i => show k_iaddr k x i E fr H id = _; simp only [k_iaddr, evalOp, kiaddr] <;> rfl
 | iaddrA len k x i => show k_iaddrA len k x i E fr H id = _; simp only [k_iaddrA, evalOp, kmoveA] <;> rfl
 | idxS x i => show k_idxS x i E fr H id = _; simp only [k_idxS, evalOp] <;> rfl
 | idxA len k x i => show k_idxA len k x i E fr H id = _; simp only [k_idxA, evalOp] <;> rfl
 | len str x => show k_len str x E fr H id = _; simp only [k_len, evalOp, klenA] <;> rfl
 | app k bytes x y => show k_app k bytes x y E fr H id = _; simp only [k_app, evalOp] <;> rfl
 | call m f args => match m with
  | 0 => show k_call0 f args E fr H id = _; simp only [k_call0, evalOp, kmap_eq] <;> rfl
  | 1 => show k_call1 f args E fr H id = _; simp only [k_call1, evalOp, kmap_eq] <;> rfl
  | m + 2 => show k_call2 f args E fr H id = _; simp only [k_call2, evalOp, kmap_eq] <;> rfl
 | callv x args => show k_callv x args E fr H id = _; simp only [k_callv, evalOp, kmap_eq] <;> rfl
 | ext x i => show k_ext x i E fr H id = _; simp only [k_ext, evalOp] <;> rfl
 | mkf f caps => show k_mkf f caps E fr H id = _; simp only [k_mkf, evalOp, kmap_eq] <;> rfl
 | mkm f caps => show k_mkm f caps E fr H id = _; simp only [k_mkm, evalOp, kmap_eq] <;> rfl
 | prim p args => show k_prim p args E fr H id = _; simp only [k_prim, evalOp, kmap_eq] <;> rfl
 | nilck x => show k_nilck x E fr H id = _; simp only [k_nilck, evalOp] <;> rfl
 | mksl k bytes z len cap => show k_mksl k bytes z len cap E fr H id = _; simp only [k_mksl, evalOp] <;> rfl
 | minmax mx args => show k_minmax mx args E fr H id = _; simp only [k_minmax, evalOp, kmap_eq] <;> rfl
 | copy k x y => show k_copy k x y E fr H id = _; simp only [k_copy, evalOp, ko] <;> rfl
 | clr k z x => show k_clr k z x E fr H id = _; simp only [k_clr, evalOp, ko] <;> rfl
 | mkif t x => show k_mkif t x E fr H id = _; simp only [k_mkif, evalOp] <;> rfl
 | tas t z ok x => show k_tas t z ok x E fr H id = _; simp only [k_tas, evalOp] <;> rfl
 | invk tab x args => show k_invk tab x args E fr H id = _; simp only [k_invk, evalOp, kmap_eq] <;> rfl
 | mkmap  => show k_mkmap  E fr H id = _; simp only [k_mkmap, evalOp] <;> rfl
 | mget ky z ok x i => show k_mget ky z ok x i E fr H id = _; simp only [k_mget, evalOp, ko] <;> rfl
 | mset ky x i v => show k_mset ky x i v E fr H id = _; simp only [k_mset, evalOp, ko] <;> rfl
 | mdel ky x i => show k_mdel ky x i E fr H id = _; simp only [k_mdel, evalOp, ko] <;> rfl
 | mlen x => show k_mlen x E fr H id = _; simp only [k_mlen, evalOp, ko] <;> rfl
 | rngS x => show k_rngS x E fr H id = _; simp only [k_rngS, evalOp] <;> rfl
 | nxt x => show k_nxt x E fr H id = _; simp only [k_nxt, evalOp, ko] <;> rfl
 | sb x => show k_sb x E fr H id = _; simp only [k_sb, evalOp] <;> rfl
 | bs x => show k_bs x E fr H id = _; simp only [k_bs, evalOp] <;> rfl
 | dfr x y => show k_dfr x y E fr H id = _; simp only [k_dfr, evalOp] <;> rfl
 | bad  => show k_bad  E fr H id = _; simp only [k_bad, evalOp] <;> rfl
def kdst (d : Option Nat) (fr : Fr) (v : PV) : Fr := @Option.rec Nat (fun _ => Fr) fr (fun t => kset fr t v) d
abbrev KCf := Env → Nat → Fr → Heap → Option St
def kadd (op : IOp) (id : Nat) : Nat := @Bool.rec (fun _ => Nat) id (Nat.succ id) op.adds
def kgo (dst : Option Nat) (op : IOp) (ih : KCf) (E : Env) (id : Nat) (fr : Fr) (H : Heap) : Option St := @Option.rec (PV × Heap) (fun _ => Option St) none (fun p => @Prod.rec PV Heap (fun _ => Option St) (fun v H' => ih E (kadd op id) (kdst dst fr v) H') p) (kop op E fr H id)
def kno (dst : Option Nat) (op : IOp) (ih : KCf) (E : Env) (id : Nat) (fr : Fr) (H : Heap) : Option St := ih E (kadd op id) (kdst dst fr (.t [])) H
def kguard (v : PV) (want : Bool) (go no : Option St) : Option St := match v with
 | .d (.b b) => if b == want then go else no
 | .t [] => no
 | _ => none
def kstep (dst : Option Nat) (op : IOp) (g : Option (Nat × Bool)) (ih : KCf) (E : Env) (id : Nat) (fr : Fr) (H : Heap) : Option St :=
 @Option.rec (Nat × Bool) (fun _ => Option St) (kgo dst op ih E id fr H) (fun p => @Prod.rec Nat Bool (fun _ => Option St) (fun t want => kguard (kget fr t) want (kgo dst op ih E id fr H) (kno dst op ih E id fr H)) p) g
def kops (l : List IOper) : KCf := @List.rec IOper (fun _ => KCf) (fun _ _ fr H => some ⟨fr, H⟩) (fun o _ ih => @IOper.rec (fun _ => KCf) (fun dst op g => kstep dst op g ih) o) l
def sdst (d : Option Nat) (fr : Fr) (v : PV) : Fr := match d with | some t => fr.set t v | none => fr
theorem kops_eq (E : Env) : ∀ (l : List IOper) (id : Nat) (fr : Fr) (H : Heap), kops l E id fr H = evalOps E l id ⟨fr, H⟩
 | [], id, fr, H => rfl
 | ⟨dst, op, g⟩ :: r, id, fr, H => by
  have ih := kops_eq E r
  have hadd : kadd op id = if op.adds then id + 1 else id := by unfold kadd; cases op.adds <;> rfl
  have hd : ∀ v, kdst dst fr v = sdst dst fr v := by intro v; cases dst <;> simp [kdst, kset_eq, sdst]
  have hgo : kgo dst op (kops r) E id fr H = match evalOp E (rd E fr) H id op with | some (v, H') => evalOps E r (if op.adds then id + 1 else id) ⟨sdst dst fr v, H'⟩ | none => none := by
   unfold kgo
   rw [kop_eq]
   cases h : evalOp E (rd E fr) H id op with
   | none => rfl
   | some p => obtain ⟨v, H'⟩ := p; show kops r E _ _ _ = _; rw [ih, hadd, hd]
  have hno : kno dst op (kops r) E id fr H = evalOps E r (if op.adds then id + 1 else id) ⟨sdst dst fr (.t []), H⟩ := by
   unfold kno; rw [ih, hadd, hd]
  show kstep dst op g (kops r) E id fr H = _
  unfold kstep
  rw [evalOps, hgo, hno]
  cases g with
  | none => cases dst <;> rfl
  | some p =>
   obtain ⟨t, want⟩ := p
   show kguard (kget fr t) want _ _ = _
   rw [kget_eq]
   cases dst <;> rfl
def kreg (ops : List IOper) (kill : List Nat) (E : Env) (fr : Fr) (H : Heap) : Option St := @Option.rec St (fun _ => Option St) none (fun s => @St.rec (fun _ => Option St) (fun fr' H' => some ⟨kdrop kill fr', H'⟩) s) (kops ops E (klen H) fr (kapp H (krep none (nadds ops) [])))
theorem kreg_eq (ops : List IOper) (kill : List Nat) (E : Env) (fr : Fr) (H : Heap) : kreg ops kill E fr H = evalReg E ops kill ⟨fr, H⟩ := by
 unfold kreg evalReg
 rw [kops_eq, klen_eq, kapp_eq, krep_eq, List.append_nil]
 cases evalOps E ops H.length ⟨fr, H ++ List.replicate (nadds ops) none⟩ with
 | none => rfl
 | some s => obtain ⟨fr', H'⟩ := s; show some _ = _; rw [kdrop_eq]
abbrev KR := Env → ((St → Res) → St → Res) → Nat → Fr → Heap → Res
def kthen (r : Res) (f : Fr → Heap → Res) : Res := @Option.rec (Ex × St) (fun _ => Res) none (fun p => @Prod.rec Ex St (fun _ => Res) (fun e s => @Ex.rec (fun _ => Res) (@St.rec (fun _ => Res) f s) (fun j => some (.exit j, s)) (some (.ret, s)) e) p) r
def kc_skip : KR := fun _ _ _ fr H => some (.norm, ⟨fr, H⟩)
def kc_reg (ops : List IOper) (kill : List Nat) : KR := fun E _ _ fr H => @Option.rec St (fun _ => Res) none (fun s => some (.norm, s)) (kreg ops kill E fr H)
def kc_regD (ops : List IOper) (bf kill : List Nat) : KR := fun E _ _ fr H => match evalRegD E ops bf kill ⟨fr, H⟩ with | some s' => some (.norm, s') | none => none
def kc_seq (_ _ : PC) (a b : KR) : KR := fun E lp base fr H => kthen (a E lp base fr H) fun fr H => b E lp base fr H
def kc_cond (c : Rand) (_ _ : PC) (x y : KR) : KR := fun E lp base fr H => match krd E fr c with
 | .d (.b true) => x E lp base fr H
 | .d (.b false) => y E lp base fr H
 | _ => none
def kblk (id : Nat) (r : Res) : Res := @Option.rec (Ex × St) (fun _ => Res) none (fun p => @Prod.rec Ex St (fun _ => Res) (fun e s => @Ex.rec (fun _ => Res) (some (.norm, s)) (fun j => @Bool.rec (fun _ => Res) (some (.exit j, s)) (some (.norm, s)) (Nat.beq j id)) (some (.ret, s)) e) p) r
def kc_block (id : Nat) (_ : PC) (x : KR) : KR := fun E lp base fr H => kblk id (x E lp base fr H)
def kround (live : List Nat) (x : KR) (E : Env) (lp : (St → Res) → St → Res) (base : Nat) (s : St) : Res := @St.rec (fun _ => Res) (fun fr H => x E lp base fr H) (gc live base s)
def kc_loop (live : List Nat) (_ : PC) (x : KR) : KR := fun E lp base fr H => lp (kround live x E lp base) ⟨fr, H⟩
def kc_rng (f : Rand) (g : Nat) (ps live : List Nat) (a x : PC) (_ _ : KR) : KR := fun E lp base fr H => evalC E lp base (.rng f g ps live a x) ⟨fr, H⟩
def kc_exit (id : Nat) : KR := fun _ _ _ fr H => some (.exit id, ⟨fr, H⟩)
def kc_ret : KR := fun _ _ _ fr H => some (.ret, ⟨fr, H⟩)
def kc_bad : KR := fun _ _ _ _ _ => none
def kev (c : PC) : KR := @PC.rec (fun _ => KR) kc_skip kc_reg kc_regD kc_seq kc_cond kc_block kc_loop kc_rng kc_exit kc_ret kc_bad c
theorem kev_eq (E : Env) (lp : (St → Res) → St → Res) (base : Nat) : ∀ (c : PC) (fr : Fr) (H : Heap), kev c E lp base fr H = evalC E lp base c ⟨fr, H⟩ := by
 intro c
 induction c with
 | skip => intro fr H; rfl
 | reg ops kill =>
  intro fr H
  show @Option.rec St (fun _ => Res) none (fun s => some (.norm, s)) (kreg ops kill E fr H) = _
  rw [kreg_eq, evalC]; cases evalReg E ops kill ⟨fr, H⟩ <;> rfl
 | regD ops bf kill => intro fr H; rfl
 | seq a b iha ihb =>
  intro fr H
  show kthen (kev a E lp base fr H) (fun fr H => kev b E lp base fr H) = _
  rw [iha, evalC]
  cases evalC E lp base a ⟨fr, H⟩ with
  | none => rfl
  | some p =>
   obtain ⟨e, s⟩ := p
   cases e with
   | norm => obtain ⟨fr', H'⟩ := s; exact ihb fr' H'
   | exit j => rfl
   | ret => rfl
 | cond c x y ihx ihy =>
  intro fr H
  show kc_cond c x y (kev x) (kev y) E lp base fr H = _
  unfold kc_cond
  rw [krd_eq, evalC, ihx, ihy]
  rfl
 | block id x ih =>
  intro fr H
  show kblk id (kev x E lp base fr H) = _
  rw [ih, evalC]
  cases evalC E lp base x ⟨fr, H⟩ with
  | none => rfl
  | some p =>
   obtain ⟨e, s⟩ := p
   cases e with
   | norm => rfl
   | exit j =>
    show @Bool.rec (fun _ => Res) (some (.exit j, s)) (some (.norm, s)) (Nat.beq j id) = if j == id then _ else _
    have : (j == id) = Nat.beq j id := by by_cases h : j = id; · { subst h; rw [Nat.beq_refl]; simp }; · { rw [beq_ne h]; simpa using h }
    rw [this]
    cases Nat.beq j id <;> rfl
   | ret => rfl
 | loop live x ih =>
  intro fr H
  show lp (kround live (kev x) E lp base) ⟨fr, H⟩ = _
  rw [evalC]
  congr 1
  funext s
  exact ih _ _
 | rng f g ps live a x iha ihx => intro fr H; rfl
 | exit id => intro fr H; rfl
 | ret => intro fr H; rfl
 | bad => intro fr H; rfl
def klp (n : Nat) : (St → Res) → St → Res := @Nat.rec (fun _ => (St → Res) → St → Res) (fun _ _ => none) (fun _ ih f s => @Option.rec (Ex × St) (fun _ => Res) none (fun p => @Prod.rec Ex St (fun _ => Res) (fun e s' => @Ex.rec (fun _ => Res) (ih f s') (fun j => some (.exit j, s')) (some (.ret, s')) e) p) (f s)) n
theorem klp_eq : ∀ n, klp n = lpN n
 | 0 => rfl
 | n + 1 => by
  funext f s
  have ih := klp_eq n
  show @Option.rec (Ex × St) (fun _ => Res) none (fun p => @Prod.rec Ex St (fun _ => Res) (fun e s' => @Ex.rec (fun _ => Res) (klp n f s') (fun j => some (.exit j, s')) (some (.ret, s')) e) p) (f s) = _
  rw [ih, lpN]
  cases f s with
  | none => rfl
  | some p => obtain ⟨e, s'⟩ := p; cases e <;> rfl
def kfin (E : Env) (rs : List RV) (s : St) : Option (PV × Heap) := match runG E (ghosts s.fr) s.H with
   | some H' => match results s.fr H' rs with
    | some vs => some (packed vs, H')
    | none => none
   | none => none
def kend (E : Env) (rs : List RV) (r : Res) : Option (PV × Heap) := @Option.rec (Ex × St) (fun _ => Option (PV × Heap)) none (fun p => @Prod.rec Ex St (fun _ => Option (PV × Heap)) (fun e s => @Ex.rec (fun _ => Option (PV × Heap)) (kfin E rs s) (fun _ => none) (kfin E rs s) e) p) r
def kargs : List PV → Nat → Fr := fun l => @List.rec PV (fun _ => Nat → Fr) (fun _ => []) (fun v _ ih j => kapp (ih (Nat.succ j)) [(j, v)]) l
theorem kargs_eq : ∀ (l : List PV) (j : Nat), kargs l j = Fr.ofArgs j l
 | [], j => rfl
 | v :: r, j => by show kapp (kargs r (j + 1)) [(j, v)] = _; rw [kapp_eq, kargs_eq r, Fr.ofArgs]
def kfn (E : Env) (lp : (St → Res) → St → Res) (F : PF) (args : List PV) (H : Heap) : Option (PV × Heap) := @PF.rec (fun _ => Option (PV × Heap)) (fun nargs rs body => @Bool.rec (fun _ => Option (PV × Heap)) none (kend E rs (kev body E lp (klen H) (kargs args 0) H)) (Nat.beq (klen args) nargs)) F
theorem kfn_eq (E : Env) (lp : (St → Res) → St → Res) (F : PF) (args : List PV) (H : Heap) : kfn E lp F args H = evalF E lp F args H := by
 obtain ⟨nargs, rs, body⟩ := F
 show @Bool.rec (fun _ => Option (PV × Heap)) none (kend E rs (kev body E lp (klen H) (kargs args 0) H)) (Nat.beq (klen args) nargs) = _
 rw [klen_eq, klen_eq, kev_eq, kargs_eq]
 unfold evalF
 by_cases h : args.length = nargs
 ·rw [if_pos h, h, Nat.beq_refl]
  show kend E rs (evalC E lp H.length body ⟨Fr.ofArgs 0 args, H⟩) = _
  cases evalC E lp H.length body ⟨Fr.ofArgs 0 args, H⟩ with
  | none => rfl
  | some p => obtain ⟨e, s⟩ := p; cases e <;> rfl
 ·rw [if_neg h, beq_ne h]
abbrev KY := Nat → List PV → Heap → Option (PV × Heap)
structure KP where
 it : KY → KY
 val : Nat → List DV → Option (PV × Bool)
def kitF (E : Env) (lp : (St → Res) → St → Res) (args : List PV) (H : Heap) (F : PF) : Option (PV × Heap) := @Option.rec (PV × Heap) (fun _ => Option (PV × Heap)) none (fun p => @Prod.rec PV Heap (fun _ => Option (PV × Heap)) (fun v H' => some (gcV (klen H) v H')) p) (kfn E lp F args H)
def kit (T : Tab) (n : Nat) (P : KP) (Y : KY) (f : Nat) (args : List PV) (H : Heap) : Option (PV × Heap) := @Option.rec PF (fun _ => Option (PV × Heap)) (T.R f args H) (kitF ⟨T.G, P.it noY, P.val, Y, P.it, T.dok⟩ (klp n) args H) (T.F f)
def kvalF (E : Env) (lp : (St → Res) → St → Res) (args : List DV) (F : PF) : Option (PV × Bool) := @Option.rec (PV × Heap) (fun _ => Option (PV × Bool)) none (fun p => @Prod.rec PV Heap (fun _ => Option (PV × Bool)) (fun v H' => purT H' v) p) (kfn E lp F (kmap .d args) [])
def kval (T : Tab) (n : Nat) (P : KP) (f : Nat) (args : List DV) : Option (PV × Bool) := @Option.rec PF (fun _ => Option (PV × Bool)) (T.X f args) (kvalF ⟨T.G, P.it noY, P.val, noY, P.it, T.dok⟩ (klp n) args) (T.F f)
def kN (T : Tab) (n : Nat) : KP := @Nat.rec (fun _ => KP) ⟨fun _ _ _ _ => none, fun _ _ => none⟩ (fun n P => ⟨kit T n P, kval T n P⟩) n
theorem kN_eq (T : Tab) : ∀ n, (kN T n).it = itN T n ∧ (kN T n).val = valN T n
 | 0 => ⟨by funext Y f a H; rw [itN]; rfl, by funext f a; rw [valN]; rfl⟩
 | n + 1 => by
  obtain ⟨h1, h2⟩ := kN_eq T n
  constructor
  ·funext Y f a H
   show kit T n (kN T n) Y f a H = _
   rw [itN_succ]
   unfold kit
   cases T.F f with
   | none => rfl
   | some F =>
    show kitF _ (klp n) a H F = _
    unfold kitF
    rw [h1, h2, klp_eq, kfn_eq, klen_eq]
    show @Option.rec (PV × Heap) (fun _ => Option (PV × Heap)) none _ (evalF (envY T n Y) (lpN n) F a H) = _
    dsimp only
    cases evalF (envY T n Y) (lpN n) F a H with
    | none => rfl
    | some p => rfl
  ·funext f a
   show kval T n (kN T n) f a = _
   rw [valN_succ]
   unfold kval
   cases T.F f with
   | none => rfl
   | some F =>
    show kvalF _ (klp n) a F = _
    unfold kvalF
    rw [h1, h2, klp_eq, kfn_eq, kmap_eq]
    show @Option.rec (PV × Heap) (fun _ => Option (PV × Bool)) none _ (evalF (envN T n) (lpN n) F (a.map .d) []) = _
    dsimp only
    cases evalF (envN T n) (lpN n) F (a.map .d) [] with
    | none => rfl
    | some p => rfl
theorem val_run {T : Tab} {f : Nat} {args : List DV} {r : PV × Bool} (n : Nat) (h : (kN T n).val f args = some r) : T.val f args = some r := (val_some T f args r).2 ⟨n, by rw [← (kN_eq T n).2]; exact h⟩
end
end Go.Sim
end
section
open Go.RowKit
namespace Go.Sim
abbrev Rows := List (List DV × PV × Bool)
theorem look_eq {α β : Type} (f : α → β) (z : β) (n : Nat) : ∀ (l : List (Nat × α)), look f z l n = match look some none l n with | none => z | some x => f x
 | [] => rfl
 | (m, x) :: r => by
  have ih := look_eq f z n r
  change (@Bool.rec (fun _ => β) (look f z r n) (f x) (Nat.beq n m)) = match (@Bool.rec (fun _ => Option α) (look some none r n) (some x) (Nat.beq n m)) with | none => z | some x => f x
  cases Nat.beq n m with
  | true => rfl
  | false => exact ih
noncomputable def memoRow (rows : Rows) (ds : List DV) : Option (PV × Bool) :=
 @List.rec (List DV × PV × Bool) (fun _ => Option (PV × Bool)) none (fun p _ ih => @Bool.rec (fun _ => Option (PV × Bool)) ih (some p.2) (DV.sameL p.1 ds)) rows
theorem memoRow_mem {ds : List DV} {r : PV × Bool} : ∀ {rows : Rows}, memoRow rows ds = some r → (ds, r) ∈ rows
 | [], h => by cases h
 | p :: rows, h => by
  change (@Bool.rec (fun _ => Option (PV × Bool)) (memoRow rows ds) (some p.2) (DV.sameL p.1 ds)) = some r at h
  cases hb : DV.sameL p.1 ds with
  | true =>
   rw [hb] at h
   have h : some p.2 = some r := h
   cases h
   rw [← dvSameL_eq _ _ hb]
   exact List.mem_cons_self ..
  | false =>
   rw [hb] at h
   exact List.mem_cons_of_mem _ (memoRow_mem h)
noncomputable def memoTab (T : Tab) (ms : List (Nat × Rows)) : Tab where
 F := fun n => look (fun _ => none) (T.F n) ms n
 X := fun n ds => look (fun rows => memoRow rows ds) (T.X n ds) ms n
 R := fun n => look (fun _ _ _ => none) (T.R n) ms n
 G := T.G
theorem memo_ok {P : Program} {N : Names} {C : Cx} {T : Tab} {ms : List (Nat × Rows)} (h : TabOK P N C T) (hv : ∀ x ∈ ms, ∀ y ∈ x.2, T.val x.1 y.1 = some y.2) (hF : ∀ x ∈ ms, (T.F x.1).isSome = true) : TabOK P N C (memoTab T ms) := by
 have key : ∀ n, (look some none ms n = none ∧ (memoTab T ms).F n = T.F n ∧ (memoTab T ms).X n = T.X n ∧ (memoTab T ms).R n = T.R n) ∨ ∃ rows, (n, rows) ∈ ms ∧ (memoTab T ms).F n = none ∧ (memoTab T ms).X n = memoRow rows ∧ (memoTab T ms).R n = fun _ _ => none := by
  intro n
  cases hl : look some none ms n with
  | none =>
   refine .inl ⟨rfl, ?_, ?_, ?_⟩
   ·exact (look_eq (fun _ => none) (T.F n) n ms).trans (by rw [hl])
   ·funext ds; exact (look_eq (fun rows => memoRow rows ds) (T.X n ds) n ms).trans (by rw [hl])
   ·exact (look_eq (fun _ _ _ => none) (T.R n) n ms).trans (by rw [hl])
  | some rows =>
   refine .inr ⟨rows, ?_, ?_, ?_, ?_⟩
   ·rcases look_mem (f := some) (z := none) (l := ms) (n := n) with h1 | ⟨x, h1, h2⟩
    ·rw [h1] at hl; cases hl
    ·rw [h2] at hl; cases hl; exact h1
   ·exact (look_eq (fun _ => none) (T.F n) n ms).trans (by rw [hl])
   ·funext ds; exact (look_eq (fun rows => memoRow rows ds) (T.X n ds) n ms).trans (by rw [hl])
   ·exact (look_eq (fun _ _ _ => none) (T.R n) n ms).trans (by rw [hl])
 have fn : ∀ n rows, (n, rows) ∈ ms → ∃ fn, P.funcs[C.μ n]? = some fn ∧ fn.body.isNone = false ∧ fn.name ≠ "runtime.NumGoroutine" := by
  intro n rows hm
  have := hF _ hm
  cases hT : T.F n with
  | none => simp only at this; rw [hT] at this; cases this
  | some F =>
   obtain ⟨fn, c, h1, h2, h3, -⟩ := h.f n F hT
   exact ⟨fn, h1, by rw [h3]; rfl, h2⟩
 refine ⟨h.names, ?_, ?_, ?_, ?_, ?_⟩
 ·intro f F hF'
  rcases key f with ⟨-, e, -⟩ | ⟨rows, -, e, -⟩
  ·rw [e] at hF'; exact h.f f F hF'
  ·rw [e] at hF'; cases hF'
 ·intro f ds r own hF' hX
  rcases key f with ⟨-, e, e2, -⟩ | ⟨rows, hm, -, e2, -⟩
  ·rw [e] at hF'; rw [e2] at hX; exact h.x f ds r own hF' hX
  ·rw [e2] at hX
   exact val_calls h (hv _ hm _ (memoRow_mem hX))
 ·intro f args H r H' hF' hR
  rcases key f with ⟨-, e, -, e2⟩ | ⟨rows, hm, -, -, e2⟩
  ·rw [e] at hF'; rw [e2] at hR; exact h.r f args H r H' hF' hR
  ·rw [e2] at hR; cases hR
 ·intro f args H r hF' hR
  rcases key f with ⟨-, e, -, e2⟩ | ⟨rows, hm, -, -, e2⟩
  ·rw [e] at hF'; rw [e2] at hR; exact h.rf f args H r hF' hR
  ·rw [e2] at hR; cases hR
 ·intro f ds r hF' hX
  rcases key f with ⟨-, e, e2, -⟩ | ⟨rows, hm, -, e2, -⟩
  ·rw [e] at hF'; rw [e2] at hX; exact h.xf f ds r hF' hX
  ·exact fn _ _ hm
end Go.Sim
end
