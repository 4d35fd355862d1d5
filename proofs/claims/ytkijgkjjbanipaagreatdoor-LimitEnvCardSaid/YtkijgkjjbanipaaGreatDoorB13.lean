/- Part 13 of the proof: CbFin25E, CbKs, CbLp, CbKd, CbKr, CbGc, CbKe, CbKq, CbKf, CbKg, CbKh, CbKi, CbV25E, CbJ1, CbJ2, CbTy, CbSimI, CbTo, CbH1, CbU25, CbH2, CbH3, CbH4, CbH5, CbH6, CbH7, CbH8, CbJ3, CbH9, CbHa, CbBq, CbXe, CbHb, CbHc, CbHd, CbJ4, CbHe, CbHf, CbHg, CbJ5, CbJ6, CbKj. -/
import Derived.Test.YtkijgkjjbanipaaGreatDoorB9
import Derived.Test.YtkijgkjjbanipaaGreatDoorB10
import Derived.Test.YtkijgkjjbanipaaGreatDoorB12
import Derived.KernelRfl
import Derived.Test.YtkijgkjjbanipaaGreatDoorB3
import Derived.Test.YtkijgkjjbanipaaGreatDoorB2
import Derived.Laws.BitsLemmas
import Derived.Test.YtkijgkjjbanipaaGreatDoorB6
import Derived.Test.YtkijgkjjbanipaaGreatDoorB7
import Derived.Test.YtkijgkjjbanipaaGreatDoorB8
import Derived.Test.YtkijgkjjbanipaaGreatDoorB1
set_option linter.all false
section
open Go Go.Sim Go.RowKit
namespace Go.Proofs.YtkijgkjjbanipaaGreatDoor
set_option maxRecDepth 100000
theorem x423 : XOK Tryz.prog nm cx TA25E.G 423 .cnt := ⟨Tryz.lays138_ren, Tryz.lays138, by kernel_rfl⟩
def insR264 : Go.Shelf.Ren := ⟨fun | 22 => 111 | 29 => 157 | 30 => 158 | n => n, fun | 0 => 0 | 3 => 3 | 4 => 4 | 9 => 56 | 24 => 48 | n => n, fun n => n⟩
theorem insL264 : InsL Tryz.prog (cx.μ 264) insR264 (K1 3).size := {
 mixed := by kernel_rfl
 bears := ⟨_, by decide, Tryz.func111⟩
 ov := ⟨_, Tryz.func157, by kernel_rfl, by kernel_rfl, by kernel_rfl, by kernel_rfl⟩
 t3 := Tryz.underlying3
 a3 := Tryz.isAgg3
 z3 := Tryz.sizeOf3
 v3 := Tryz.zeroValue3
 t4 := Tryz.underlying4
 a4 := Tryz.isAgg4
 z4 := Tryz.sizeOf4
 v4 := Tryz.zeroValue4
 t24 := Tryz.underlying48
 a24 := Tryz.isAgg48
 z24 := Tryz.sizeOf48
 v24 := Tryz.zeroValue48
 z9 := Tryz.sizeOf56 }
theorem r264 : ROK Tryz.prog nm cx TA25E.G 264 (.ins (K1 3) 32) := ⟨insR264, .a [I 0, I 0, .s []], insL264, by kernel_rfl, by kernel_rfl, by kernel_rfl, by decide, by decide⟩
theorem xok : ∀ x ∈ xsL, XOK Tryz.prog nm cx TA25E.G x.1 x.2 := by
 simp only [xsL, List.forall_mem_cons, List.not_mem_nil, false_imp_iff, implies_true, and_true]
 exact x423
theorem rok : ∀ x ∈ rsL, ROK Tryz.prog nm cx TA25E.G x.1 x.2 := by
 simp only [rsL, List.forall_mem_cons, List.not_mem_nil, false_imp_iff, implies_true, and_true]
 exact r264
theorem tok0 : TabOK Tryz.prog nm cx TA25E := tab_ok nok fok xok rok
theorem tok : TabOK Tryz.prog nm cx TA25Em2 := memo_ok (memo_ok tok0 ms1_ok ms1_some) ms2_ok ms2_some
end Go.Proofs.YtkijgkjjbanipaaGreatDoor
end
section
namespace Go.Sim
inductive Hd {α : Type} : α → Type where
 | h (x : α) : Hd x
section
variable {R α β : Type}
def bo (x : Option α) {k : α → Option R} (_ : Hd k) : Option R := match x with | some a => k a | none => none
def bo2 (x : Option (PV × Heap)) {k : PV → Heap → Option R} (_ : Hd k) : Option R := match x with | some (v, H) => k v H | none => none
def brn (b : Bool) {x y : Option R} (_ : Hd (x, y)) : Option R := match b with | true => x | false => y
def chk (p : Prop) [Decidable p] {x : Option R} (_ : Hd x) : Option R := if p then x else none
theorem brn_true (x y : Option R) : brn true (.h (x, y)) = x := rfl
theorem brn_false (x y : Option R) : brn false (.h (x, y)) = y := rfl
theorem brn_not (b : Bool) (x y : Option R) : brn (!b) (.h (x, y)) = brn b (.h (y, x)) := by cases b <;> rfl
theorem brn_split {b : Bool} {x y z : Option R} (h1 : b = true → x = z) (h2 : b = false → y = z) : brn b (.h (x, y)) = z := by cases b; exact h2 rfl; exact h1 rfl
theorem chk_T (x : Option R) : chk True (.h x) = x := rfl
theorem bo_some (a : α) (k : α → Option R) : bo (some a) (.h k) = k a := rfl
theorem bo_none (k : α → Option R) : bo none (.h k) = none := rfl
theorem bo2_some (v : PV) (H : Heap) (k : PV → Heap → Option R) : bo2 (some (v, H)) (.h k) = k v H := rfl
theorem bo2_none (k : PV → Heap → Option R) : bo2 none (.h k) = none := rfl
theorem bo2_opt (x : Option PV) (H : Heap) (k : PV → Heap → Option R) : bo2 (opt x H) (.h k) = bo x (.h fun v => k v H) := by cases x <;> rfl
theorem bo2_optD (x : Option DV) (H : Heap) (k : PV → Heap → Option R) : bo2 (optD x H) (.h k) = bo x (.h fun v => k (.d v) H) := by cases x <;> rfl
abbrev KC (R : Type) := Ex → Fr → Heap → Option R
abbrev KO (R : Type) := Fr → Heap → Option R
noncomputable def kC (E : Env) (base : Nat) (fr : Fr) (H : Heap) {c : PC} {k : KC R} (_ : Hd (c, k)) : Option R := match evalC E lpI base c ⟨fr, H⟩ with | some (e, s) => k e s.fr s.H | none => none
def kO (E : Env) (id : Nat) (fr : Fr) (H : Heap) {ops : List IOper} {k : KO R} (_ : Hd (ops, k)) : Option R := match evalOps E ops id ⟨fr, H⟩ with | some s => k s.fr s.H | none => none
def kD (E : Env) (id : Nat) (fr : Fr) (H : Heap) (bf : List Nat) (acc : List (List Nat × List Nat)) {ops : List IOper} {k : KO R} (_ : Hd (ops, k)) : Option R := match evalOpsD E ops bf acc id ⟨fr, H⟩ with | some s => k s.fr s.H | none => none
variable {E : Env} {base : Nat} {fr : Fr} {H : Heap} {k : KC R} {j : KO R}
theorem kC_skip : kC E base fr H (.h (.skip, k)) = k .norm fr H := rfl
theorem kC_ret : kC E base fr H (.h (.ret, k)) = k .ret fr H := rfl
theorem kC_exit {id : Nat} : kC E base fr H (.h (.exit id, k)) = k (.exit id) fr H := rfl
noncomputable def sqK (E : Env) (base : Nat) (b : PC) (k : KC R) : KC R
 | .norm, fr, H => kC E base fr H (.h (b, k))
 | .exit id, fr, H => k (.exit id) fr H
 | .ret, fr, H => k .ret fr H
def blK (id : Nat) (k : KC R) : KC R
 | .exit i, fr, H => if i = id then k .norm fr H else k (.exit i) fr H
 | .norm, fr, H => k .norm fr H
 | .ret, fr, H => k .ret fr H
def rgK (kill : List Nat) (k : KC R) : KO R := fun fr H => k .norm (fr.drop kill) H
theorem kC_seq {a b : PC} : kC E base fr H (.h (.seq a b, k)) = kC E base fr H (.h (a, sqK E base b k)) := by
 simp only [kC, evalC]
 cases evalC E lpI base a ⟨fr, H⟩ with
 | none => rfl
 | some x => obtain ⟨e, s⟩ := x; cases e <;> rfl
theorem kC_block {id : Nat} {x : PC} : kC E base fr H (.h (.block id x, k)) = kC E base fr H (.h (x, blK id k)) := by
 simp only [kC, evalC]
 cases evalC E lpI base x ⟨fr, H⟩ with
 | none => rfl
 | some y =>
  obtain ⟨e, s⟩ := y
  cases e with
  | norm => rfl
  | ret => rfl
  | exit i =>
   by_cases h : i = id
   ·subst h; simp [blK]
   ·simp [blK, h]
theorem kC_reg {ops : List IOper} {kill : List Nat} : kC E base fr H (.h (.reg ops kill, k)) = kO E H.length fr (H ++ List.replicate (nadds ops) none) (.h (ops, rgK kill k)) := by
 simp only [kC, evalC, evalReg, kO]
 cases evalOps E ops H.length ⟨fr, H ++ List.replicate (nadds ops) none⟩ <;> rfl
theorem kC_regD {ops : List IOper} {bf kill : List Nat} : kC E base fr H (.h (.regD ops bf kill, k)) = kD E H.length fr (H ++ List.replicate (nadds ops) none) bf [] (.h (ops, rgK kill k)) := by
 simp only [kC, evalC, evalRegD, kD]
 cases evalOpsD E ops bf [] H.length ⟨fr, H ++ List.replicate (nadds ops) none⟩ <;> rfl
def Fr.fix : Fr → Nat → Bool → Fr
 | [], _, _ => []
 | (j, v) :: r, t, b => if j = t then (j, .d (.b b)) :: r else (j, v) :: Fr.fix r t b
theorem fix_eq : ∀ {fr : Fr} {t : Nat} {b : Bool}, fr.get t = .d (.b b) → fr.fix t b = fr
 | [], t, b, h => rfl
 | (j, x) :: r, t, b, h => by
  simp only [Fr.get] at h
  simp only [Fr.fix]
  split
  ·rename_i hj; rw [if_pos hj] at h; rw [h]
  ·rename_i hj; rw [if_neg hj] at h; rw [fix_eq h]
def tst (v : PV) {x y : Option R} (_ : Hd (x, y)) : Option R := match v with | .d (.b true) => x | .d (.b false) => y | _ => none
theorem tst_b (b : Bool) (x y : Option R) : tst (.d (.b b)) (.h (x, y)) = brn b (.h (x, y)) := by cases b <;> rfl
theorem kC_cond {t : Nat} {x y : PC} : kC E base fr H (.h (.cond (.t t) x y, k)) = tst (fr.get t) (.h (kC E base (fr.fix t true) H (.h (x, k)), kC E base (fr.fix t false) H (.h (y, k)))) := by
 simp only [kC, evalC, rd]
 cases h : fr.get t with
 | d v =>
  cases v with
  | b b => cases b with
   | true => simp only [tst]; rw [fix_eq h]
   | false => simp only [tst]; rw [fix_eq h]
  | _ => rfl
 | _ => rfl
theorem kC_condc {b : Bool} {x y : PC} : kC E base fr H (.h (.cond (.c (.b b)) x y, k)) = brn b (.h (kC E base fr H (.h (x, k)), kC E base fr H (.h (y, k)))) := by
 cases b <;> rfl
theorem kO_nil {id : Nat} : kO E id fr H (.h ([], j)) = j fr H := rfl
def nid (op : IOp) (id : Nat) : Nat := if op.adds = true then id + 1 else id
theorem kO_O {d : Nat} {op : IOp} {r : List IOper} {id : Nat} : kO E id fr H (.h (⟨some d, op, none⟩ :: r, j)) = bo2 (evalOp E (rd E fr) H id op) (.h fun v H => kO E (nid op id) (fr.set d v) H (.h (r, j))) := by
 simp only [kO, evalOps, bo2]
 cases evalOp E (rd E fr) H id op <;> rfl
theorem kO_E {op : IOp} {r : List IOper} {id : Nat} : kO E id fr H (.h (⟨none, op, none⟩ :: r, j)) = bo2 (evalOp E (rd E fr) H id op) (.h fun _ H => kO E (nid op id) fr H (.h (r, j))) := by
 simp only [kO, evalOps, bo2]
 cases evalOp E (rd E fr) H id op <;> rfl
def grd (v : PV) (w : Bool) {x y z : Option R} (_ : Hd (x, y, z)) : Option R := match v with | .d (.b b) => if b = w then x else y | .t [] => z | _ => none
theorem grd_b (b : Bool) (x y z : Option R) : grd (.d (.b b)) true (.h (x, y, z)) = brn b (.h (x, y)) := by cases b <;> rfl
theorem grd_nb (b : Bool) (x y z : Option R) : grd (.d (.b b)) false (.h (x, y, z)) = brn b (.h (y, x)) := by cases b <;> rfl
theorem grd_t (w : Bool) (x y z : Option R) : grd (.t []) w (.h (x, y, z)) = z := rfl
theorem kO_OG {d t : Nat} {w : Bool} {op : IOp} {r : List IOper} {id : Nat} : kO E id fr H (.h (⟨some d, op, some (t, w)⟩ :: r, j)) =
  grd (fr.get t) w (.h (bo2 (evalOp E (rd E (fr.fix t w)) H id op) (.h fun v H => kO E (nid op id) ((fr.fix t w).set d v) H (.h (r, j))), kO E (nid op id) ((fr.fix t (!w)).set d (.t [])) H (.h (r, j)), kO E (nid op id) (fr.set d (.t [])) H (.h (r, j)))) := by
 simp only [kO, evalOps]
 cases h : fr.get t with
 | d v =>
  cases v with
  | b b =>
   by_cases hb : b = w
   ·subst hb
    rw [fix_eq h]
    simp only [grd, beq_self_eq_true, if_true]
    cases evalOp E (rd E fr) H id op <;> rfl
   ·have e : (b == w) = false := by simpa using hb
    have e2 : b = !w := by cases b <;> cases w <;> simp_all
    rw [e2] at h
    simp only [grd, e, if_neg hb, Bool.false_eq_true, if_false]
    rw [fix_eq h]; rfl
  | _ => rfl
 | t vs => cases vs <;> rfl
 | _ => rfl
theorem kO_EG {t : Nat} {w : Bool} {op : IOp} {r : List IOper} {id : Nat} : kO E id fr H (.h (⟨none, op, some (t, w)⟩ :: r, j)) =
  grd (fr.get t) w (.h (bo2 (evalOp E (rd E (fr.fix t w)) H id op) (.h fun _ H => kO E (nid op id) (fr.fix t w) H (.h (r, j))), kO E (nid op id) (fr.fix t (!w)) H (.h (r, j)), kO E (nid op id) fr H (.h (r, j)))) := by
 simp only [kO, evalOps]
 cases h : fr.get t with
 | d v =>
  cases v with
  | b b =>
   by_cases hb : b = w
   ·subst hb
    rw [fix_eq h]
    simp only [grd, beq_self_eq_true, if_true]
    cases evalOp E (rd E fr) H id op <;> rfl
   ·have e : (b == w) = false := by simpa using hb
    have e2 : b = !w := by cases b <;> cases w <;> simp_all
    rw [e2] at h
    simp only [grd, e, if_neg hb, Bool.false_eq_true, if_false]
    rw [fix_eq h]; rfl
  | _ => rfl
 | t vs => cases vs <;> rfl
 | _ => rfl
variable {ρ : Rand → PV} {id : Nat} {q : PV → Heap → Option R}
theorem b_mov {x : Rand} : bo2 (evalOp E ρ H id (.mov x)) (.h q) = q (ρ x) H := rfl
theorem b_pick {c x y : Rand} : bo2 (evalOp E ρ H id (.pick c x y)) (.h q) = tst (ρ c) (.h (q (ρ x) H, q (ρ y) H)) := by
 simp only [evalOp]
 cases ρ c with
 | d v =>
  cases v with
  | b b => cases b <;> rfl
  | _ => rfl
 | _ => rfl
theorem b_alloc {K : Sim.K} {z : DV} : bo2 (evalOp E ρ H id (.alloc K z)) (.h q) = q (.p id 0 0) (H.put id (some (.box K (.d z)))) := rfl
theorem b_box {K : Sim.K} {x : Rand} : bo2 (evalOp E ρ H id (.box K x)) (.h q) = chk (fits K (ρ x) = true) (.h (q (.p id 0 0) (H.put id (some (.box K (ρ x)))))) := by
 simp only [evalOp, chk]; split <;> rfl
theorem b_load {K : Sim.K} {x : Rand} : bo2 (evalOp E ρ H id (.load K x)) (.h q) = bo (loadA H K (ρ x)) (.h fun v => q v H) := by
 simp only [evalOp]; exact bo2_opt _ _ _
theorem b_store {K : Sim.K} {x y : Rand} : bo2 (evalOp E ρ H id (.store K x y)) (.h q) = bo (storeA H K (ρ x) (ρ y)) (.h fun H' => q .u H') := by
 simp only [evalOp]; cases storeA H K (ρ x) (ρ y) <;> rfl
theorem b_bin {op : BinOp} {x y : Rand} : bo2 (evalOp E ρ H id (.bin op x y)) (.h q) = bo (binA op (ρ x) (ρ y)) (.h fun v => q (.d v) H) := by
 simp only [evalOp]; exact bo2_optD _ _ _
theorem b_un {op : UnOp} {x : Rand} : bo2 (evalOp E ρ H id (.un op x)) (.h q) = bo (unA op (ρ x)) (.h fun v => q (.d v) H) := by
 simp only [evalOp]; exact bo2_optD _ _ _
theorem b_eqv {neg : Bool} {n : List Nat} {x y : Rand} : bo2 (evalOp E ρ H id (.eqv neg n x y)) (.h q) = bo (eqA n (ρ x) (ρ y)) (.h fun e => q (.d (.b (if neg = true then !e else e))) H) := by
 simp only [evalOp]; cases eqA n (ρ x) (ρ y) <;> rfl
theorem b_faddr {o : Nat} {x : Rand} : bo2 (evalOp E ρ H id (.faddr o x)) (.h q) = bo (moveA o (ρ x)) (.h fun v => q v H) := by
 simp only [evalOp]; exact bo2_opt _ _ _
theorem b_field {o : Nat} {K : Sim.K} {x : Rand} : bo2 (evalOp E ρ H id (.field o K x)) (.h q) = bo (fieldA o K (ρ x)) (.h fun v => q v H) := by
 simp only [evalOp]; exact bo2_opt _ _ _
theorem b_iaddr {K : Sim.K} {x i : Rand} : bo2 (evalOp E ρ H id (.iaddr K x i)) (.h q) = bo (iaddr H K (ρ x) (ρ i)) (.h fun v => q v H) := by
 simp only [evalOp]; exact bo2_opt _ _ _
theorem b_sl {K : Sim.K} {x : Rand} {lo hi mx : Option Rand} : bo2 (evalOp E ρ H id (.sl K x lo hi mx)) (.h q) = bo (slA H K (ρ x) (lo.map ρ) (hi.map ρ) (mx.map ρ)) (.h fun v => q v H) := by
 simp only [evalOp]; exact bo2_opt _ _ _
theorem b_len {s : Bool} {x : Rand} : bo2 (evalOp E ρ H id (.len s x)) (.h q) = bo (lenA H s (ρ x)) (.h fun n : Nat => q (.d (.i .i64 (n : Int))) H) := by
 simp only [evalOp]; cases lenA H s (ρ x) <;> rfl
theorem b_app {K : Sim.K} {b : Nat} {x y : Rand} : bo2 (evalOp E ρ H id (.app K b x y)) (.h q) = bo2 (appA H id K b (ρ x) (ρ y)) (.h q) := rfl
theorem b_call {f : Nat} {as0 : List Rand} : bo2 (evalOp E ρ H id (.call 0 f as0)) (.h q) = bo (purs H (as0.map ρ)) (.h fun d => bo (E.val f d.1) (.h fun r => q r.1 (if (d.2.isEmpty || r.1.scal) = true then H else frz H d.2))) := by
 simp only [evalOp]
 cases purs H (as0.map ρ) with
 | none => rfl
 | some d =>
  simp only [bo]
  cases E.val f d.1 with
  | none => rfl
  | some r => rfl
def ownL (x : PV × Bool) {q : K → List DV → Option R} (_ : Hd q) : Option R := match x with | (.d (.l k es _), true) => q k es | _ => none
theorem ownL_l {k : K} {es : List DV} {t : Bool} {q : K → List DV → Option R} : ownL (.d (.l k es t), true) (.h q) = q k es := rfl
theorem b_call1 {f : Nat} {as0 : List Rand} : bo2 (evalOp E ρ H id (.call 1 f as0)) (.h q) = bo (purs H (as0.map ρ)) (.h fun d => bo (E.val f d.1) (.h fun r => ownL r (.h fun k es => q (.r id k 0 es.length false) ((if d.2.isEmpty = true then H else frz H d.2).put id (some (.sl k 0 es)))))) := by
 simp only [evalOp]
 cases purs H (as0.map ρ) with
 | none => rfl
 | some d =>
  simp only [bo]
  cases E.val f d.1 with
  | none => rfl
  | some r =>
   obtain ⟨r, o⟩ := r
   cases r with
   | d v => cases v with
    | l k es t => cases o <;> rfl
    | _ => rfl
   | _ => rfl
theorem b_callR {m f : Nat} {as0 : List Rand} : bo2 (evalOp E ρ H id (.call (m + 2) f as0)) (.h q) = bo2 (E.ref f (as0.map ρ) H) (.h q) := rfl
def extK (x : PV) (i : Nat) {q : PV → Option R} (_ : Hd q) : Option R := match x with | .t vs => bo vs[i]? (.h q) | _ => none
theorem extK_t {vs : List PV} {i : Nat} {q : PV → Option R} : extK (.t vs) i (.h q) = bo vs[i]? (.h q) := rfl
theorem b_ext {x : Rand} {i : Nat} : bo2 (evalOp E ρ H id (.ext x i)) (.h q) = extK (ρ x) i (.h fun v => q v H) := by
 simp only [evalOp, extK]
 cases ρ x with
 | t vs => exact bo2_opt _ _ _
 | _ => rfl
def slSK (x : PV) (lo hi : Option PV) {q : PV → Option R} (_ : Hd q) : Option R := match x with | .d (.s s) => bo (bnd s.length s.length hi) (.h fun h => bo (bnd 0 h lo) (.h fun l => q (.d (.s ((s.take h).drop l))))) | _ => none
theorem slSK_s {s : List UInt8} {lo hi : Option PV} {q : PV → Option R} : slSK (.d (.s s)) lo hi (.h q) = bo (bnd s.length s.length hi) (.h fun h => bo (bnd 0 h lo) (.h fun l => q (.d (.s ((s.take h).drop l))))) := rfl
theorem b_slS {x : Rand} {lo hi : Option Rand} : bo2 (evalOp E ρ H id (.slS x lo hi)) (.h q) = slSK (ρ x) (lo.map ρ) (hi.map ρ) (.h fun v => q v H) := by
 simp only [evalOp, slSK]
 cases ρ x with
 | d v => cases v with
  | s s =>
   simp only
   cases bnd s.length s.length (hi.map ρ) with
   | none => rfl
   | some h => simp only [bo]; cases bnd 0 h (lo.map ρ) <;> rfl
  | _ => rfl
 | _ => rfl
variable {kk : IntKind}
theorem bo_bnd {d top : Nat} {n : Int} {y : Nat → Option R} : bo (bnd d top (some (.d (.i kk n)))) (.h y) = chk (0 ≤ n ∧ n ≤ top) (.h (y n.toNat)) := by
 simp only [bnd, asI, chk]; split <;> rfl
theorem bo_bnd0 {d top : Nat} {y : Nat → Option R} : bo (bnd d top none) (.h y) = y d := rfl
theorem bo_iaddr {K K' : Sim.K} {es : List DV} {t : Bool} {n : Int} {y : PV → Option R} (hK : K.eq K' = true) : bo (iaddr H K (.d (.l K' es t)) (.d (.i kk n))) (.h y) = chk (0 ≤ n ∧ n < es.length) (.h (bo es[n.toNat]? (.h fun e => y (.q e K 0)))) := by
 simp only [iaddr, asI, inR, chk]
 by_cases h : 0 ≤ n ∧ n < es.length
 ·rw [if_pos h, if_pos h]; simp only
  cases es[n.toNat]? with
  | none => rfl
  | some e => simp only [hK, if_true]; rfl
 ·rw [if_neg h, if_neg h]; rfl
theorem bo_addS {x y : List UInt8} {z : DV → Option R} : bo (binA .add (.d (.s x)) (.d (.s y))) (.h z) = chk (x.length + y.length < 4611686018427387904) (.h (z (.s (x ++ y)))) := by
 simp only [binA, binS, chk]
 by_cases h : x.length + y.length < 4611686018427387904
 ·rw [if_pos h, if_pos (by exact h)]; rfl
 ·rw [if_neg h, if_neg (by exact h)]; rfl
theorem bo_quo {x y : Int} {z : DV → Option R} : bo (binA .quo (.d (.i kk x)) (.d (.i kk y))) (.h z) = chk (y ≠ 0) (.h (z (.i kk (kk.wrap (x.tdiv y))))) := by
 simp only [binA, binI, if_true, chk]; by_cases h : y = 0 <;> simp [h, bo]
theorem bo_rem {x y : Int} {z : DV → Option R} : bo (binA .rem (.d (.i kk x)) (.d (.i kk y))) (.h z) = chk (y ≠ 0) (.h (z (.i kk (x.tmod y)))) := by
 simp only [binA, binI, if_true, chk]; by_cases h : y = 0 <;> simp [h, bo]
end
noncomputable def fin (E : Env) (rs : List RV) : KC (PV × Bool)
 | .exit _, _, _ => none
 | _, fr, H => bo (runG E (ghosts fr) H) (.h fun H => bo (results fr H rs) (.h fun vs => purT H (packed vs)))
theorem val_k (T : Tab) {f : Nat} {F : PF} (hF : T.F f = some F) {args : List DV} (ha : args.length = F.nargs) : T.val f args = kC T.env 0 (Fr.ofArgs 0 (args.map .d)) [] (.h (F.body, fin T.env F.results)) := by
 rw [val_eq T hF]
 unfold evalF
 rw [if_pos (by simpa using ha)]
 simp only [kC, List.length_nil]
 cases evalC T.env lpI 0 F.body ⟨Fr.ofArgs 0 (args.map .d), []⟩ with
 | none => rfl
 | some x =>
  obtain ⟨e, s⟩ := x
  cases e with
  | exit id => rfl
  | norm =>
   simp only [fin]
   cases runG T.env (ghosts s.fr) s.H with
   | none => rfl
   | some H' => simp only [bo]; cases results s.fr H' F.results <;> rfl
  | ret =>
   simp only [fin]
   cases runG T.env (ghosts s.fr) s.H with
   | none => rfl
   | some H' => simp only [bo]; cases results s.fr H' F.results <;> rfl
end Go.Sim
end
section
namespace Go.Sim
section
variable {R : Type} {E : Env} {base : Nat} {live : List Nat} {body : PC}
noncomputable def lpK (E : Env) (base : Nat) (live : List Nat) (body : PC) (k : KC R) : KC R
 | .norm, fr, H => kC E base fr H (.h (.loop live body, k))
 | .exit id, fr, H => k (.exit id) fr H
 | .ret, fr, H => k .ret fr H
theorem kC_loop {fr : Fr} {H : Heap} {k : KC R} : kC E base fr H (.h (.loop live body, k)) = kC E base (gc live base ⟨fr, H⟩).fr (gc live base ⟨fr, H⟩).H (.h (body, lpK E base live body k)) := by
 have h : evalC E lpI base (.loop live body) ⟨fr, H⟩ = lpI (fun s => evalC E lpI base body (gc live base s)) ⟨fr, H⟩ := rfl
 simp only [kC, h]
 rw [lpI_eq]
 cases hb : evalC E lpI base body (gc live base ⟨fr, H⟩) with
 | none => simp only
 | some x =>
  obtain ⟨e, s⟩ := x
  simp only
  cases e with
  | norm => rfl
  | exit id => rfl
  | ret => rfl
def rounds {α β : Type} (step : Nat → β → α → (β → Option R) → Option R) (done : β → Option R) : Nat → β → List α → Option R
 | _, b, [] => done b
 | i, b, x :: r => step i b x fun b' => rounds step done (i + 1) b' r
theorem loop_rounds {α β : Type} (ls : List α) (st : Nat → β → St) (inv : Nat → β → Prop) (step : Nat → β → α → (β → Option R) → Option R) (done : β → Option R) {k : KC R}
  (hend : ∀ B, B = body → ∀ b, inv ls.length b → kC E base (st ls.length b).fr (st ls.length b).H (.h (body, lpK E base live B k)) = done b)
  (hround : ∀ B, B = body → ∀ i b (h : i < ls.length), inv i b → ∀ c : β → Option R, (∀ b' fr H, inv (i + 1) b' → gc live base ⟨fr, H⟩ = st (i + 1) b' → kC E base fr H (.h (.loop live B, k)) = c b') → kC E base (st i b).fr (st i b).H (.h (body, lpK E base live B k)) = step i b ls[i] c)
  {fr : Fr} {H : Heap} {b0 : β} (h0 : gc live base ⟨fr, H⟩ = st 0 b0) (hi : inv 0 b0) : kC E base fr H (.h (.loop live body, k)) = rounds step done 0 b0 ls := by
 have key : ∀ (n i : Nat) (b : β) (fr : Fr) (H : Heap), i + n = ls.length → inv i b → gc live base ⟨fr, H⟩ = st i b → kC E base fr H (.h (.loop live body, k)) = rounds step done i b (ls.drop i) := by
  intro n
  induction n with
  | zero =>
   intro i b fr H hn hv hg
   have hi : i = ls.length := by omega
   subst hi
   rw [kC_loop, hg, hend body rfl b hv, List.drop_length]
   rfl
  | succ n ih =>
   intro i b fr H hn hv hg
   have hlt : i < ls.length := by omega
   rw [kC_loop, hg, List.drop_eq_getElem_cons hlt]
   exact hround body rfl i b hlt hv _ fun b' fr' H' hv' hg' => ih (i + 1) b' fr' H' (by omega) hv' hg'
 have := key ls.length 0 b0 fr H (by omega) hi h0
 simpa using this
theorem rounds_any {α : Type} (p : α → Bool) (r : Option R) (done : Unit → Option R) (step : Nat → Unit → α → (Unit → Option R) → Option R) (hs : ∀ i b x c, step i b x c = if p x = true then r else c ()) : ∀ (i : Nat) (ls : List α), rounds step done i () ls = if ls.any p = true then r else done ()
 | i, [] => by simp [rounds]
 | i, x :: l => by
  rw [rounds, hs, rounds_any p r done step hs (i + 1) l]
  cases h : p x <;> simp [h]
theorem rounds_all {α : Type} (p : α → Bool) (r : Option R) (done : Unit → Option R) (step : Nat → Unit → α → (Unit → Option R) → Option R) (hs : ∀ i b x c, step i b x c = if p x = true then c () else r) : ∀ (i : Nat) (ls : List α), rounds step done i () ls = if ls.all p = true then done () else r
 | i, [] => by simp [rounds]
 | i, x :: l => by
  rw [rounds, hs, rounds_all p r done step hs (i + 1) l]
  cases h : p x <;> simp [h]
end
end Go.Sim
end
section
namespace Go.Sim
section
variable {R : Type} {y : PV → Option R} {H : Heap}
theorem cells_d (v : DV) : (PV.d v).cells = v.cells.map .d := by cases v <;> rfl
theorem take1 {α : Type} (l : List α) (c : Nat) : (l.drop c).take 1 = match l[c]? with | some x => [x] | none => [] := by
 cases h : l[c]? with
 | none => rw [List.getElem?_eq_none_iff] at h; rw [List.drop_eq_nil_iff.2 h]; rfl
 | some x =>
  obtain ⟨hc, rfl⟩ := List.getElem?_eq_some_iff.1 h
  rw [List.drop_eq_getElem_cons hc]; rfl
theorem subP0 (n : Nat) (v : DV) (c : Nat) : bo (subP (some n) (.d v) c none) (.h y) = chk (c < n) (.h (bo v.cells[c]? (.h fun x => y (.d x)))) := by
 unfold chk
 simp only [subP, K.eq, Bool.and_false, Bool.false_eq_true, if_false]
 change bo (@ite _ (c + 1 ≤ n) (Nat.decLe _ _) (mkP none ((List.drop c (PV.d v).cells).take 1)) none) (.h y) = _
 by_cases h : c < n
 ·rw [if_pos h, if_pos (by omega), take1, cells_d, List.getElem?_map]
  cases v.cells[c]? <;> rfl
 ·rw [if_neg h, if_neg (by omega)]; rfl
theorem subD0 (n : Nat) (v : DV) (c : Nat) {z : DV → Option R} : bo (subD (some n) v c none) (.h z) = chk (c < n) (.h (bo v.cells[c]? (.h z))) := by
 unfold chk
 simp only [subD, K.eq, Bool.and_false, Bool.false_eq_true, if_false]
 change bo (@ite _ (c + 1 ≤ n) (Nat.decLe _ _) (mkD none ((List.drop c v.cells).take 1)) none) (.h z) = _
 by_cases h : c < n
 ·rw [if_pos h, if_pos (by omega), take1]
  cases v.cells[c]? <;> rfl
 ·rw [if_neg h, if_neg (by omega)]; rfl
theorem ld_q0 (n : Nat) (v : DV) (c : Nat) : bo (loadA H none (.q v (some n) c)) (.h y) = chk (c < n) (.h (bo v.cells[c]? (.h fun x => y (.d x)))) := by
 have h := subD0 (R := R) n v c (z := fun x => y (.d x))
 rw [← h]
 simp only [loadA]
 cases subD (some n) v c none <;> rfl
theorem ld_qw (k : K) (v : DV) : bo (loadA H k (.q v k 0)) (.h y) = y (.d v) := by
 have : K.eq k k = true := by cases k <;> simp [K.eq]
 simp [loadA, subD, this, bo]
theorem obj_0 (x : Option Obj) (H : Heap) : Heap.obj (x :: H) 0 = x := rfl
theorem obj_s (x : Option Obj) (H : Heap) (n : Nat) : Heap.obj (x :: H) (n + 1) = Heap.obj H n := rfl
theorem ld_p (k : K) (o i c : Nat) : bo (loadA H k (.p o i c)) (.h y) = match H.obj o with
  | some (.box kb v) => chk (i = 0) (.h (bo (subP kb v c k) (.h y)))
  | some (.sl kb _ es) => bo es[i]? (.h fun e => bo (subD kb e c k) (.h fun x => y (.d x)))
  | _ => none := by
 simp only [loadA]
 cases H.obj o with
 | none => rfl
 | some x => cases x with
  | box kb v =>
   simp only
   by_cases h : i = 0
   ·subst h; simp [chk]
   ·have : (i == 0) = false := by simpa using h
    simp [h, this, bo, chk]
  | sl kb ro es =>
   simp only
   cases es[i]? with
   | none => rfl
   | some e => simp only [bo]; cases subD kb e c k <;> rfl
  | _ => rfl
theorem subPw (k : K) (v : PV) : bo (subP k v 0 k) (.h y) = y v := by
 have : K.eq k k = true := by cases k <;> simp [K.eq]
 simp [subP, this, bo]
theorem bo_moveP (off o i c : Nat) : bo (moveA off (.p o i c)) (.h y) = y (.p o i (c + off)) := rfl
theorem bo_moveQ (off : Nat) (v : DV) (k : K) (c : Nat) : bo (moveA off (.q v k c)) (.h y) = y (.q v k (c + off)) := rfl
variable {z : Nat → Option R}
theorem bo_lenl (k : K) (es : List DV) (t : Bool) : bo (lenA H false (.d (.l k es t))) (.h z) = z es.length := rfl
theorem bo_lens (s : List UInt8) : bo (lenA H true (.d (.s s))) (.h z) = z s.length := rfl
theorem bo_lenr (o : Nat) (k : K) (off len : Nat) (t : Bool) : bo (lenA H false (.r o k off len t)) (.h z) = match H.obj o with | some (.sl _ _ es) => chk (off + len ≤ es.length) (.h (z len)) | _ => none := by
 simp only [lenA, chk]
 cases H.obj o with
 | none => rfl
 | some x => cases x with
  | sl kb ro es => simp only [Bool.false_eq_true, if_false]; split <;> rfl
  | _ => rfl
variable {d : DV → Option R}
section
variable (k : IntKind) (a b : Int)
theorem bo_add : bo (binA .add (.d (.i k a)) (.d (.i k b))) (.h d) = d (.i k (k.wrap (a + b))) := by simp [binA, binI, bo]
theorem bo_sub : bo (binA .sub (.d (.i k a)) (.d (.i k b))) (.h d) = d (.i k (k.wrap (a - b))) := by simp [binA, binI, bo]
theorem bo_mul : bo (binA .mul (.d (.i k a)) (.d (.i k b))) (.h d) = d (.i k (k.wrap (a * b))) := by simp [binA, binI, bo]
theorem bo_eql : bo (binA .eql (.d (.i k a)) (.d (.i k b))) (.h d) = d (.b (a == b)) := by simp [binA, binI, bo]
theorem bo_neq : bo (binA .neq (.d (.i k a)) (.d (.i k b))) (.h d) = d (.b (a != b)) := by simp [binA, binI, bo]
theorem bo_lss : bo (binA .lss (.d (.i k a)) (.d (.i k b))) (.h d) = d (.b (decide (a < b))) := by simp [binA, binI, bo]
theorem bo_leq : bo (binA .leq (.d (.i k a)) (.d (.i k b))) (.h d) = d (.b (decide (a ≤ b))) := by simp [binA, binI, bo]
theorem bo_gtr : bo (binA .gtr (.d (.i k a)) (.d (.i k b))) (.h d) = d (.b (decide (b < a))) := by simp [binA, binI, bo]
theorem bo_geq : bo (binA .geq (.d (.i k a)) (.d (.i k b))) (.h d) = d (.b (decide (b ≤ a))) := by simp [binA, binI, bo]
theorem bo_neg : bo (unA .neg (.d (.i k a))) (.h d) = d (.i k (k.wrap (-a))) := by simp [unA, bo]
end
theorem bo_not (b : Bool) : bo (unA .not (.d (.b b))) (.h d) = d (.b (!b)) := rfl
theorem bo_eqS (a b : List UInt8) : bo (binA .eql (.d (.s a)) (.d (.s b))) (.h d) = d (.b (a == b)) := rfl
theorem bo_neS (a b : List UInt8) : bo (binA .neq (.d (.s a)) (.d (.s b))) (.h d) = d (.b (!(a == b))) := rfl
theorem K_ss (n m : Nat) : K.eq (some n) (some m) = (n == m) := rfl
theorem K_ns (n : Nat) : K.eq none (some n) = false := rfl
theorem K_sn (n : Nat) : K.eq (some n) none = false := rfl
theorem K_refl (k : K) : K.eq k k = true := by cases k <;> simp [K.eq]
theorem get_c (j t : Nat) (v : PV) (r : Fr) : Fr.get ((j, v) :: r) t = if j = t then v else Fr.get r t := rfl
theorem get_n (t : Nat) : Fr.get [] t = .u := rfl
theorem drop_c (l : List Nat) (j : Nat) (v : PV) (r : Fr) : Fr.drop l ((j, v) :: r) = if (l.contains j && Nat.blt j gh) = true then Fr.drop l r else (j, v) :: Fr.drop l r := rfl
theorem drop_n (l : List Nat) : Fr.drop l [] = [] := rfl
theorem set_c (j t : Nat) (x v : PV) (r : Fr) : Fr.set ((j, x) :: r) t v = if j = t then (t, v) :: r else if j < t then (t, v) :: (j, x) :: r else (j, x) :: Fr.set r t v := rfl
theorem set_n (t : Nat) (v : PV) : Fr.set [] t v = [(t, v)] := rfl
theorem fix_c (j t : Nat) (v : PV) (r : Fr) (b : Bool) : Fr.fix ((j, v) :: r) t b = if j = t then (j, .d (.b b)) :: r else (j, v) :: Fr.fix r t b := rfl
theorem fix_n (t : Nat) (b : Bool) : Fr.fix [] t b = [] := rfl
theorem wrI {n : Int} (h : -9223372036854775808 ≤ n) (h' : n < 9223372036854775808) : IntKind.i64.wrap n = n := by
 rw [IntKind.wrap_i64]; omega
theorem ghosts_c (j : Nat) (v : PV) (r : Fr) : ghosts ((j, v) :: r) = if Nat.ble gh j = true then v :: ghosts r else ghosts r := rfl
theorem ghosts_n : ghosts [] = [] := rfl
theorem fin_ret {E : Env} {rs : List RV} {fr : Fr} (h : ghosts fr = []) : fin E rs .ret fr H = bo (results fr H rs) (.h fun vs => purT H (packed vs)) := by
 simp only [fin, h]; rfl
theorem fin_norm {E : Env} {rs : List RV} {fr : Fr} (h : ghosts fr = []) : fin E rs .norm fr H = bo (results fr H rs) (.h fun vs => purT H (packed vs)) := by
 simp only [fin, h]; rfl
theorem bo_res0 {fr : Fr} {y : List PV → Option R} : bo (results fr H []) (.h y) = y [] := rfl
theorem bo_rest {fr : Fr} {n : Nat} {r : List RV} {y : List PV → Option R} : bo (results fr H (.t n :: r)) (.h y) = bo (results fr H r) (.h fun vs => y (fr.get n :: vs)) := by
 simp only [results]; cases results fr H r <;> rfl
theorem bo_resc {fr : Fr} {n : Nat} {k : K} {r : List RV} {y : List PV → Option R} : bo (results fr H (.c n k :: r)) (.h y) = bo (loadA H k (fr.get n)) (.h fun v => bo (results fr H r) (.h fun vs => y (v :: vs))) := by
 simp only [results]
 cases loadA H k (fr.get n) with
 | none => rfl
 | some v => simp only [bo]; cases results fr H r <;> rfl
theorem packed1 (v : PV) : packed [v] = v := rfl
theorem packed2 (v w : PV) (r : List PV) : packed (v :: w :: r) = .t (v :: w :: r) := rfl
theorem purT_b (b : Bool) : purT H (.d (.b b)) = some (.d (.b b), false) := rfl
theorem purT_i (k : IntKind) (n : Int) : purT H (.d (.i k n)) = some (.d (.i k n), false) := rfl
theorem purT_s (s : List UInt8) : purT H (.d (.s s)) = some (.d (.s s), false) := rfl
theorem purT_a (cs : List DV) : purT H (.d (.a cs)) = some (.d (.a cs), false) := rfl
theorem purT_lt (k : K) (es : List DV) : purT H (.d (.l k es true)) = some (.d (.l k es false), es.isEmpty) := rfl
theorem purT_lf (k : K) (es : List DV) : purT H (.d (.l k es false)) = some (.d (.l k es false), false) := rfl
variable {hy : Heap → Option R}
theorem st_box (kb k : K) (o i c : Nat) (v w : PV) (ho : H.obj o = some (.box kb w)) : bo (storeA H k (.p o i c) v) (.h hy) = chk (fits k v = true) (.h (chk (i = 0) (.h (if (c == 0 && K.eq k kb) = true then hy (H.put o (some (.box kb v))) else chk (c + k.size ≤ w.cells.length) (.h (bo (mkP kb (putAt w.cells c v.cells)) (.h fun w' => hy (H.put o (some (.box kb w')))))))))) := by
 simp only [storeA, ho, chk]
 by_cases hf : fits k v = true
 ·simp only [hf, if_true]
  by_cases hi : i = 0
  ·subst hi
   simp only [beq_self_eq_true, if_true]
   by_cases hc : (c == 0 && K.eq k kb) = true
   ·simp only [hc, if_true]; rfl
   ·simp only [hc, Bool.false_eq_true, if_false]
    by_cases hs : c + k.size ≤ w.cells.length
    ·simp only [hs, if_true]
     cases mkP kb (putAt w.cells c v.cells) <;> rfl
    ·simp only [hs, if_false]; rfl
  ·have : (i == 0) = false := by simpa using hi
   simp only [this, hi, Bool.false_eq_true, if_false]; rfl
 ·simp only [hf, Bool.false_eq_true, if_false]; rfl
def stK (H : Heap) (k : K) (o i c : Nat) (v : PV) (x : Option Obj) {hy : Heap → Option R} (_ : Hd hy) : Option R := match x with
 | some (.box kb w) => chk (fits k v = true) (.h (chk (i = 0) (.h (if (c == 0 && K.eq k kb) = true then hy (H.put o (some (.box kb v))) else chk (c + k.size ≤ w.cells.length) (.h (bo (mkP kb (putAt w.cells c v.cells)) (.h fun w' => hy (H.put o (some (.box kb w'))))))))))
 | _ => bo (storeA H k (.p o i c) v) (.h hy)
theorem st_p (k : K) (o i c : Nat) (v : PV) : bo (storeA H k (.p o i c) v) (.h hy) = stK H k o i c v (H.obj o) (.h hy) := by
 unfold stK
 split
 ·rename_i kb w ho; exact st_box kb k o i c v w ho
 ·rfl
theorem stK_box (kb k : K) (o i c : Nat) (v w : PV) : stK H k o i c v (some (.box kb w)) (.h hy) = chk (fits k v = true) (.h (chk (i = 0) (.h (if (c == 0 && K.eq k kb) = true then hy (H.put o (some (.box kb v))) else chk (c + k.size ≤ w.cells.length) (.h (bo (mkP kb (putAt w.cells c v.cells)) (.h fun w' => hy (H.put o (some (.box kb w')))))))))) := rfl
def callvK (E : Env) (H : Heap) (v : PV) (as0 : List PV) {q : PV → Heap → Option R} (_ : Hd q) : Option R := match v with
 | .f n caps => match (if caps.isEmpty = true then plains as0 else none) with
  | some ds => bo (E.val n ds) (.h fun r => q r.1 H)
  | none => bo2 (E.ref n (as0 ++ caps) H) (.h q)
 | .m n firsts => match plains (firsts ++ as0) with
  | some ds => bo (E.val n ds) (.h fun r => q r.1 H)
  | none => bo2 (E.ref n (firsts ++ as0) H) (.h q)
 | .h o => bo2 (E.yld o as0 H) (.h q)
 | _ => none
theorem b_callv {E : Env} {ρ : Rand → PV} {id : Nat} {x : Rand} {as0 : List Rand} {q : PV → Heap → Option R} : bo2 (evalOp E ρ H id (.callv x as0)) (.h q) = callvK E H (ρ x) (as0.map ρ) (.h q) := by
 simp only [evalOp, callvK]
 cases ρ x with
 | f n caps =>
  simp only
  cases (if caps.isEmpty = true then plains (as0.map ρ) else none) with
  | none => rfl
  | some ds => simp only; cases E.val n ds <;> rfl
 | m n firsts =>
  simp only
  cases plains (firsts ++ as0.map ρ) with
  | none => rfl
  | some ds => simp only; cases E.val n ds <;> rfl
 | _ => rfl
theorem callvK_f0 {E : Env} {n : Nat} {as0 : List PV} {q : PV → Heap → Option R} : callvK E H (.f n []) as0 (.h q) = match plains as0 with | some ds => bo (E.val n ds) (.h fun r => q r.1 H) | none => bo2 (E.ref n (as0 ++ []) H) (.h q) := rfl
theorem callvK_f1 {E : Env} {n : Nat} {c : PV} {cs : List PV} {as0 : List PV} {q : PV → Heap → Option R} : callvK E H (.f n (c :: cs)) as0 (.h q) = bo2 (E.ref n (as0 ++ c :: cs) H) (.h q) := rfl
theorem plains_n : plains [] = some [] := rfl
theorem plains_c (v : DV) (r : List PV) : plains (.d v :: r) = match plains r with | some vs => some (v :: vs) | none => none := rfl
theorem env_val (T : Tab) (f : Nat) (ds : List DV) : T.env.val f ds = T.val f ds := rfl
theorem env_ref (T : Tab) (f : Nat) (as0 : List PV) (H : Heap) : T.env.ref f as0 H = T.ref f as0 H := rfl
theorem purs_n : purs H [] = some ([], []) := rfl
theorem purs_d (v : DV) (r : List PV) : purs H (.d v :: r) = match purs H r with | some (xs, ps) => some (v :: xs, ps) | none => none := by
 simp only [purs, pur, purC]
 cases purs H r <;> rfl
theorem mkf_b {E : Env} {ρ : Rand → PV} {id f : Nat} {cs : List Rand} {q : PV → Heap → Option R} : bo2 (evalOp E ρ H id (.mkf f cs)) (.h q) = q (.f f (cs.map ρ)) H := rfl
theorem plainsD_map : ∀ l : List DV, plains (l.map PV.d) = some l
 | [] => rfl
 | v :: l => by simp [plains, plainsD_map l]
theorem subPs (n m : Nat) (v : DV) (c : Nat) : bo (subP (some n) (.d v) c (some m)) (.h y) = if (c == 0 && m == n) = true then y (.d v) else chk (c + m ≤ n ∧ ((v.cells.drop c).take m).length = m) (.h (y (.d (.a ((v.cells.drop c).take m))))) := by
 by_cases h : (c == 0 && m == n) = true
 ·have h' := h
  simp only [Bool.and_eq_true, beq_iff_eq] at h'
  obtain ⟨rfl, rfl⟩ := h'
  rw [subPw]; simp
 ·rw [if_neg h]
  have h' : (c == 0 && K.eq (some m) (some n)) = false := by simpa [K.eq] using h
  simp only [subP, h', Bool.false_eq_true, if_false, chk]
  change bo (@ite _ (c + m ≤ n) (Nat.decLe _ _) (mkP (some m) ((List.drop c (PV.d v).cells).take m)) none) (.h y) = _
  rw [cells_d, ← List.map_drop, ← List.map_take]
  by_cases h1 : c + m ≤ n
  ·rw [if_pos h1]
   by_cases h2 : ((v.cells.drop c).take m).length = m
   ·rw [if_pos ⟨h1, h2⟩]
    simp only [mkP, List.length_map, h2, if_true, mkA, plainsD_map]; rfl
   ·rw [if_neg (fun h => h2 h.2)]
    simp only [mkP, List.length_map, h2, if_false]; rfl
  ·rw [if_neg h1, if_neg (fun h => h1 h.1)]; rfl
theorem ld_qs (n m : Nat) (v : DV) (c : Nat) : bo (loadA H (some m) (.q v (some n) c)) (.h y) = if (c == 0 && m == n) = true then y (.d v) else chk (c + m ≤ n ∧ ((v.cells.drop c).take m).length = m) (.h (y (.d (.a ((v.cells.drop c).take m))))) := by
 by_cases h : (c == 0 && m == n) = true
 ·have h' := h
  simp only [Bool.and_eq_true, beq_iff_eq] at h'
  obtain ⟨rfl, rfl⟩ := h'
  rw [ld_qw]; simp
 ·rw [if_neg h]
  have h' : (c == 0 && K.eq (some m) (some n)) = false := by simpa [K.eq] using h
  simp only [loadA, subD, h', Bool.false_eq_true, if_false, chk]
  change bo (match @ite _ (c + m ≤ n) (Nat.decLe _ _) (mkD (some m) ((List.drop c v.cells).take m)) none with | some x => some (PV.d x) | none => none) (.h y) = _
  by_cases h1 : c + m ≤ n
  ·rw [if_pos h1]
   by_cases h2 : ((v.cells.drop c).take m).length = m
   ·rw [if_pos ⟨h1, h2⟩]
    simp only [mkD, h2, if_true]; rfl
   ·rw [if_neg (fun h => h2 h.2)]
    simp only [mkD, h2, if_false]; rfl
  ·rw [if_neg h1, if_neg (fun h => h1 h.1)]; rfl
end
end Go.Sim
end
section
namespace Go.Sim
section
variable {R : Type} {E : Env} {fr : Fr} {H : Heap} {bf : List Nat} {acc : List (List Nat × List Nat)} {id : Nat} {j : KO R}
theorem disj_nil : ∀ a : List Nat, disj a [] = true
 | [] => rfl
 | x :: r => by have := disj_nil r; unfold disj at this ⊢; simp
theorem pairsD_nil (b : Nat) : ∀ (acc : List (List Nat × List Nat)) (i : Nat), pairsD b i acc [] [] = true
 | [], _ => rfl
 | x :: r, i => by simp only [pairsD, pairsD_nil b r (i + 1), disj_nil, Bool.and_true]; simp [disj]
def rdS : IOp → Bool
 | .mov _ | .pick _ _ _ | .load _ _ | .bin _ _ _ | .eqv _ _ _ _ | .eqb _ _ _ | .isnil _ _ _ | .un _ _ | .conv _ _ | .slS _ _ _ | .sl _ _ _ _ _ | .faddr _ _ | .field _ _ _ | .iaddr _ _ _ | .iaddrA _ _ _ _ | .idxS _ _ | .idxA _ _ _ _ | .len _ _ | .ext _ _ | .nilck _ | .minmax _ _ | .call 0 _ _ => true
 | _ => false
def noSl : Heap → Bool
 | [] => true
 | some (.sl _ _ _) :: _ => false
 | _ :: r => noSl r
theorem noSl_obj : ∀ {H : Heap} {o : Nat}, noSl H = true → ∀ k ro es, H.obj o ≠ some (.sl k ro es)
 | [], o, _, k, ro, es, h => by simp [Heap.obj] at h
 | x :: r, 0, hn, k, ro, es, h => by
  have : x = some (.sl k ro es) := h
  subst this
  simp [noSl] at hn
 | x :: r, o + 1, hn, k, ro, es, h => by
  have hn' : noSl r = true := by
   cases x with
   | none => exact hn
   | some y => cases y <;> first | exact hn | (simp [noSl] at hn)
  exact noSl_obj (H := r) (o := o) hn' k ro es h
theorem frz_no {H : Heap} (hn : noSl H = true) : ∀ os : List Nat, frz H os = H
 | [] => rfl
 | o :: r => by
  have h1 : frz1 H o = H := by
   unfold frz1
   split
   ·rename_i k ro es h; exact absurd h (noSl_obj hn k ro es)
   ·rfl
  rw [frz, h1, frz_no hn r]
theorem opt_H {x : Option PV} {H H' : Heap} {v : PV} (h : opt x H = some (v, H')) : H' = H := by
 cases x with
 | none => cases h
 | some y => cases h; rfl
theorem optD_H {x : Option DV} {H H' : Heap} {v : PV} (h : optD x H = some (v, H')) : H' = H := by
 cases x with
 | none => cases h
 | some y => cases h; rfl
theorem rdS_H {ρ : Rand → PV} {op : IOp} (hs : rdS op = true) (hn : noSl H = true) {v : PV} {H' : Heap} (h : evalOp E ρ H id op = some (v, H')) : H' = H := by
 cases op with
 | call m f as0 =>
  match m with
  | 0 =>
   simp only [evalOp] at h
   split at h
   ·split at h
    ·simp only [Option.some.injEq, Prod.mk.injEq] at h
     rw [← h.2, frz_no hn]; split <;> rfl
    ·cases h
   ·cases h
  | m + 1 => simp [rdS] at hs
 | mov x => cases h; rfl
 | pick c a b => simp only [evalOp] at h; split at h <;> first | (cases h; rfl) | cases h
 | load k x => exact opt_H h
 | bin op x y => exact optD_H h
 | eqv neg ks x y => simp only [evalOp] at h; split at h <;> first | (cases h; rfl) | cases h
 | eqb neg x y => simp only [evalOp] at h; split at h <;> first | (cases h; rfl) | cases h
 | isnil neg kd x => simp only [evalOp] at h; split at h <;> first | (cases h; rfl) | cases h
 | un op x => exact optD_H h
 | conv k x => simp only [evalOp] at h; split at h <;> first | (cases h; rfl) | cases h
 | slS x lo hi => simp only [evalOp] at h; (repeat' split at h) <;> first | (cases h; rfl) | cases h
 | sl k x lo hi mx => exact opt_H h
 | faddr o x => exact opt_H h
 | field o k x => exact opt_H h
 | iaddr k x i => exact opt_H h
 | iaddrA n k x i => simp only [evalOp] at h; (repeat' split at h) <;> first | exact opt_H h | cases h
 | idxS x i => simp only [evalOp] at h; (repeat' split at h) <;> first | (cases h; rfl) | cases h
 | idxA n k x i => simp only [evalOp] at h; (repeat' split at h) <;> first | exact opt_H h | cases h
 | len s x => simp only [evalOp] at h; split at h <;> first | (cases h; rfl) | cases h
 | ext x i => simp only [evalOp] at h; split at h <;> first | exact opt_H h | cases h
 | nilck x => simp only [evalOp] at h; split at h <;> first | (cases h; rfl) | cases h
 | minmax m as0 => simp only [evalOp] at h; split at h <;> first | exact opt_H h | cases h
 | _ => simp [rdS] at hs
theorem rdS_f {op : IOp} (hs : rdS op = true) (ρ : Rand → PV) : op.adds = false ∧ op.okD ρ = true ∧ storeD ρ op = [] := by
 cases op with
 | call m f as0 =>
  match m with
  | 0 => exact ⟨rfl, rfl, rfl⟩
  | m + 1 => simp [rdS] at hs
 | _ => first | exact ⟨rfl, rfl, rfl⟩ | simp [rdS] at hs
theorem chg_self (H : Heap) : ∀ l, chg H H l = []
 | [] => rfl
 | o :: r => by simp only [chg, Nat.beq_refl, if_true]; exact chg_self H r
theorem pairsD_r (b : Nat) (t : List Nat) : ∀ (acc : List (List Nat × List Nat)) (i : Nat), (∀ x ∈ acc, x.2 = []) → pairsD b i acc t [] = true
 | [], _, _ => rfl
 | x :: r, i, h => by
  simp only [pairsD, pairsD_r b t r (i + 1) (fun y hy => h y (List.mem_cons_of_mem _ hy)), h x (List.mem_cons_self ..), Bool.and_true]
  simp [disj]
def setO (dst : Option Nat) (fr : Fr) (v : PV) : Fr := match dst with | some t => fr.set t v | none => fr
theorem evalOpsD_seq : ∀ (ops : List IOper) (bf : List Nat) (acc : List (List Nat × List Nat)) (id : Nat) (fr : Fr) (H : Heap), (ops.all fun o => rdS o.op) = true → noSl H = true → (∀ x ∈ acc, x.2 = []) → evalOpsD E ops bf acc id ⟨fr, H⟩ = evalOps E ops id ⟨fr, H⟩
 | [], _, _, _, _, _, _, _, _ => rfl
 | o :: r, bf, acc, id, fr, H, ho, hn, ha => by
  simp only [List.all_cons, Bool.and_eq_true] at ho
  obtain ⟨h1, h2, h3⟩ := rdS_f ho.1 (rd E fr)
  have hid : (if o.op.adds = true then id + 1 else id) = id := by rw [h1]; rfl
  have ha' : ∀ (t : List Nat), ∀ x ∈ acc ++ [(t, ([] : List Nat))], x.2 = [] := fun t x hx => by
   rcases List.mem_append.1 hx with h | h
   ·exact ha x h
   ·rw [List.mem_singleton.1 h]
  have step : ∀ (v : PV) (H' : Heap), evalOp E (rd E fr) H id o.op = some (v, H') → ∀ fr', evalOpsD E r bf.tail (acc ++ [(writeS E o id ⟨fr, H⟩ ⟨fr', H'⟩ ++ touchS E o ⟨fr, H⟩, writeS E o id ⟨fr, H⟩ ⟨fr', H'⟩)]) id ⟨fr', H'⟩ = evalOps E r id ⟨fr', H'⟩ ∧ pairsD (bf.headD 0) 0 acc (writeS E o id ⟨fr, H⟩ ⟨fr', H'⟩ ++ touchS E o ⟨fr, H⟩) (writeS E o id ⟨fr, H⟩ ⟨fr', H'⟩) = true := by
   intro v H' he fr'
   have := rdS_H ho.1 hn he
   subst this
   have hw : writeS E o id ⟨fr, H'⟩ ⟨fr', H'⟩ = [] := by
    unfold writeS; split
    ·simp [h1, h3, chg_self]
    ·rfl
   rw [hw]
   exact ⟨evalOpsD_seq r _ _ id fr' H' ho.2 hn (ha' _), pairsD_r _ _ _ _ ha⟩
  have skip : runs o fr = false → ∀ fr', evalOpsD E r bf.tail (acc ++ [(writeS E o id ⟨fr, H⟩ ⟨fr', H⟩ ++ touchS E o ⟨fr, H⟩, writeS E o id ⟨fr, H⟩ ⟨fr', H⟩)]) id ⟨fr', H⟩ = evalOps E r id ⟨fr', H⟩ ∧ pairsD (bf.headD 0) 0 acc (writeS E o id ⟨fr, H⟩ ⟨fr', H⟩ ++ touchS E o ⟨fr, H⟩) (writeS E o id ⟨fr, H⟩ ⟨fr', H⟩) = true := by
   intro hr fr'
   have hw : writeS E o id ⟨fr, H⟩ ⟨fr', H⟩ = [] := by unfold writeS; rw [hr]; rfl
   rw [hw]
   exact ⟨evalOpsD_seq r _ _ id fr' H ho.2 hn (ha' _), pairsD_r _ _ _ _ ha⟩
  obtain ⟨dst, op, g⟩ := o
  simp only at h1 h2 h3 hid
  have go : (match (match evalOpD E (rd E fr) H id op with | some (v, H') => some (⟨setO dst fr v, H'⟩ : St) | none => none) with
    | some s' => if pairsD (bf.headD 0) 0 acc (writeS E ⟨dst, op, g⟩ id ⟨fr, H⟩ s' ++ touchS E ⟨dst, op, g⟩ ⟨fr, H⟩) (writeS E ⟨dst, op, g⟩ id ⟨fr, H⟩ s') = true then evalOpsD E r bf.tail (acc ++ [(writeS E ⟨dst, op, g⟩ id ⟨fr, H⟩ s' ++ touchS E ⟨dst, op, g⟩ ⟨fr, H⟩, writeS E ⟨dst, op, g⟩ id ⟨fr, H⟩ s')]) id s' else none
    | none => none) = match evalOp E (rd E fr) H id op with | some (v, H') => evalOps E r id ⟨setO dst fr v, H'⟩ | none => none := by
   simp only [evalOpD, h2, if_true]
   cases he : evalOp E (rd E fr) H id op with
   | none => rfl
   | some x =>
    obtain ⟨v, H'⟩ := x
    obtain ⟨q1, q2⟩ := step v H' he (setO dst fr v)
    simp only [q2, if_true, q1]
  have no : runs ⟨dst, op, g⟩ fr = false → (if pairsD (bf.headD 0) 0 acc (writeS E ⟨dst, op, g⟩ id ⟨fr, H⟩ ⟨setO dst fr (.t []), H⟩ ++ touchS E ⟨dst, op, g⟩ ⟨fr, H⟩) (writeS E ⟨dst, op, g⟩ id ⟨fr, H⟩ ⟨setO dst fr (.t []), H⟩) = true then evalOpsD E r bf.tail (acc ++ [(writeS E ⟨dst, op, g⟩ id ⟨fr, H⟩ ⟨setO dst fr (.t []), H⟩ ++ touchS E ⟨dst, op, g⟩ ⟨fr, H⟩, writeS E ⟨dst, op, g⟩ id ⟨fr, H⟩ ⟨setO dst fr (.t []), H⟩)]) id ⟨setO dst fr (.t []), H⟩ else none) = evalOps E r id ⟨setO dst fr (.t []), H⟩ := by
   intro hr
   obtain ⟨q1, q2⟩ := skip hr (setO dst fr (.t []))
   simp only [q2, if_true, q1]
  simp only [evalOpsD, stepD, evalOps, hid]
  cases g with
  | none => exact go
  | some g =>
   obtain ⟨t, w⟩ := g
   simp only
   cases hg : fr.get t with
   | d v =>
    cases v with
    | b b =>
     simp only
     by_cases hb : (b == w) = true
     ·simp only [hb, if_true]; exact go
     ·have hb' : (b == w) = false := by simpa using hb
      simp only [hb', Bool.false_eq_true, if_false]
      exact no (by simp [runs, hg, hb'])
    | _ => rfl
   | t vs =>
    cases vs with
    | nil => simp only; exact no (by simp [runs, hg])
    | cons => rfl
   | _ => rfl
theorem kC_regS {base : Nat} {k : KC R} {ops : List IOper} {kill : List Nat} (ho : (ops.all fun o => rdS o.op) = true) (hn : noSl H = true) : kC E base fr H (.h (.regD ops bf kill, k)) = kO E H.length fr H (.h (ops, rgK kill k)) := by
 have hz : nadds ops = 0 := by
  clear hn
  induction ops with
  | nil => rfl
  | cons o r ih =>
   simp only [List.all_cons, Bool.and_eq_true] at ho
   simp only [nadds, (rdS_f ho.1 (fun _ => .u)).1, ih ho.2]; rfl
 simp only [kC, evalC, evalRegD, kO, hz, List.replicate_zero, List.append_nil]
 rw [evalOpsD_seq ops bf [] H.length fr H ho hn (fun x hx => by cases hx)]
 cases evalOps E ops H.length ⟨fr, H⟩ <;> rfl
theorem kC_regS0 {base : Nat} {k : KC R} {ops : List IOper} {kill : List Nat} (ho : (ops.all fun o => rdS o.op) = true) : kC E base fr [] (.h (.regD ops bf kill, k)) = kO E 0 fr [] (.h (ops, rgK kill k)) := kC_regS ho rfl
theorem kC_regS1 {base : Nat} {k : KC R} {ops : List IOper} {kill : List Nat} {k0 : K} {v0 : PV} (ho : (ops.all fun o => rdS o.op) = true) : kC E base fr [some (.box k0 v0)] (.h (.regD ops bf kill, k)) = kO E 1 fr [some (.box k0 v0)] (.h (ops, rgK kill k)) := kC_regS ho rfl
theorem kC_regS2 {base : Nat} {k : KC R} {ops : List IOper} {kill : List Nat} {k0 k1 : K} {v0 v1 : PV} (ho : (ops.all fun o => rdS o.op) = true) : kC E base fr [some (.box k0 v0), some (.box k1 v1)] (.h (.regD ops bf kill, k)) = kO E 2 fr [some (.box k0 v0), some (.box k1 v1)] (.h (ops, rgK kill k)) := kC_regS ho rfl
theorem kC_regS3 {base : Nat} {k : KC R} {ops : List IOper} {kill : List Nat} {k0 k1 k2 : K} {v0 v1 v2 : PV} (ho : (ops.all fun o => rdS o.op) = true) : kC E base fr [some (.box k0 v0), some (.box k1 v1), some (.box k2 v2)] (.h (.regD ops bf kill, k)) = kO E 3 fr [some (.box k0 v0), some (.box k1 v1), some (.box k2 v2)] (.h (ops, rgK kill k)) := kC_regS ho rfl
theorem kC_regS4 {base : Nat} {k : KC R} {ops : List IOper} {kill : List Nat} {k0 k1 k2 k3 : K} {v0 v1 v2 v3 : PV} (ho : (ops.all fun o => rdS o.op) = true) : kC E base fr [some (.box k0 v0), some (.box k1 v1), some (.box k2 v2), some (.box k3 v3)] (.h (.regD ops bf kill, k)) = kO E 4 fr [some (.box k0 v0), some (.box k1 v1), some (.box k2 v2), some (.box k3 v3)] (.h (ops, rgK kill k)) := kC_regS ho rfl
theorem kC_regS5 {base : Nat} {k : KC R} {ops : List IOper} {kill : List Nat} {k0 k1 k2 k3 k4 : K} {v0 v1 v2 v3 v4 : PV} (ho : (ops.all fun o => rdS o.op) = true) : kC E base fr [some (.box k0 v0), some (.box k1 v1), some (.box k2 v2), some (.box k3 v3), some (.box k4 v4)] (.h (.regD ops bf kill, k)) = kO E 5 fr [some (.box k0 v0), some (.box k1 v1), some (.box k2 v2), some (.box k3 v3), some (.box k4 v4)] (.h (ops, rgK kill k)) := kC_regS ho rfl
end
end Go.Sim
end
section
namespace Go.Sim
mutual
theorem ren_id (ρ : Nat → Option Nat) : ∀ v : PV, (∀ r ∈ v.refs, ρ r = some r) → v.ren ρ = v
 | .u, _ => rfl
 | .d _, _ => rfl
 | .a cs, h => by rw [PV.ren, renL_id ρ cs (by simpa [PV.refs] using h)]
 | .t cs, h => by rw [PV.ren, renL_id ρ cs (by simpa [PV.refs] using h)]
 | .r o k off len t, h => by rw [PV.ren, h o (by simp [PV.refs])]
 | .p o i c, h => by rw [PV.ren, h o (by simp [PV.refs])]
 | .q _ _ _, _ => rfl
 | .f n cs, h => by rw [PV.ren, renL_id ρ cs (by simpa [PV.refs] using h)]
 | .h o, h => by rw [PV.ren, h o (by simp [PV.refs])]
 | .g v, h => by rw [PV.ren, ren_id ρ v (by simpa [PV.refs] using h)]
 | .m n cs, h => by rw [PV.ren, renL_id ρ cs (by simpa [PV.refs] using h)]
 | .w t v, h => by rw [PV.ren, ren_id ρ v (by simpa [PV.refs] using h)]
theorem renL_id (ρ : Nat → Option Nat) : ∀ cs : List PV, (∀ r ∈ PV.refsL cs, ρ r = some r) → PV.renL ρ cs = cs
 | [], _ => rfl
 | v :: cs, h => by
  simp only [PV.refsL, List.mem_append] at h
  rw [PV.renL, ren_id ρ v (fun r hr => h r (.inl hr)), renL_id ρ cs (fun r hr => h r (.inr hr))]
end
theorem orenO_id {ρ : Nat → Option Nat} {x : Option Obj} (h : ∀ r ∈ orefs x, ρ r = some r) : x.map (·.ren ρ) = x := by
 cases x with
 | none => rfl
 | some y =>
  cases y with
  | box k v => simp only [Option.map, Obj.ren, ren_id ρ v (by simpa [orefs, Obj.refs] using h)]
  | _ => rfl
theorem heap_id {ρ : Nat → Option Nat} : ∀ {H : Heap}, (∀ r ∈ heapRefs H, ρ r = some r) → H.map (·.map (·.ren ρ)) = H
 | [], _ => rfl
 | x :: H, h => by
  simp only [heapRefs, List.mem_append] at h
  rw [List.map_cons, orenO_id (fun r hr => h r (.inl hr)), heap_id (fun r hr => h r (.inr hr))]
theorem fr_id {ρ : Nat → Option Nat} : ∀ {fr : Fr}, (∀ r ∈ frRefs fr, ρ r = some r) → Fr.ren ρ fr = fr
 | [], _ => rfl
 | (j, v) :: fr, h => by
  simp only [frRefs, List.mem_append] at h
  rw [Fr.ren, ren_id ρ v (fun r hr => h r (.inl hr)), fr_id (fun r hr => h r (.inr hr))]
theorem reach_low (H : Heap) (base : Nat) : ∀ (n : Nat) (acc todo : List Nat), (∀ o ∈ todo, o < base) → reach H base n acc todo = acc
 | 0, _, _, _ => rfl
 | n + 1, acc, [], _ => rfl
 | n + 1, acc, o :: todo, h => by
  rw [reach, if_pos (h o (List.mem_cons_self ..))]
  exact reach_low H base n acc todo fun x hx => h x (List.mem_cons_of_mem _ hx)
def Cl (H : Heap) : Prop := ∀ r ∈ heapRefs H, r < H.length
theorem gc_low (live : List Nat) {H J : Heap} {fr : Fr} (hH : Cl H) (hf : ∀ r ∈ frRefs (Fr.keep live fr), r < H.length) : gc live H.length ⟨fr, H ++ J⟩ = ⟨Fr.keep live fr, H⟩ := by
 have ht : (H ++ J).take H.length = H := by simp
 have hr : reach (H ++ J) H.length 1000 [] (frRefs (Fr.keep live fr) ++ heapRefs H) = [] := reach_low _ _ _ _ _ fun o ho => by
  rcases List.mem_append.1 ho with h | h
  ·exact hf o h
  ·exact hH o h
 have hp : ∀ r, r < H.length → place H.length [] r = some r := fun r h => by simp [place, h]
 simp only [gc, ht, hr, gcH, List.map_nil, List.append_nil]
 rw [fr_id (fun r h => hp r (hf r h)), heap_id (fun r h => hp r (hH r h))]
theorem gc_low0 (live : List Nat) {H : Heap} {fr : Fr} (hH : Cl H) (hf : ∀ r ∈ frRefs (Fr.keep live fr), r < H.length) : gc live H.length ⟨fr, H⟩ = ⟨Fr.keep live fr, H⟩ := by
 have := gc_low live (J := []) hH hf
 rwa [List.append_nil] at this
theorem gcV_low {H J : Heap} {v : PV} (hH : Cl H) (hf : ∀ r ∈ v.refs, r < H.length) : gcV H.length v (H ++ J) = (v, H) := by
 have ht : (H ++ J).take H.length = H := by simp
 have hr : reach (H ++ J) H.length 1000 [] (v.refs ++ heapRefs H) = [] := reach_low _ _ _ _ _ fun o ho => by
  rcases List.mem_append.1 ho with h | h
  ·exact hf o h
  ·exact hH o h
 have hp : ∀ r, r < H.length → place H.length [] r = some r := fun r h => by simp [place, h]
 simp only [gcV, ht, hr, gcH, List.map_nil, List.append_nil]
 rw [ren_id _ v (fun r h => hp r (hf r h)), heap_id (fun r h => hp r (hH r h))]
theorem gcV_self {H : Heap} {v : PV} (hH : Cl H) (hf : ∀ r ∈ v.refs, r < H.length) : gcV H.length v H = (v, H) := by
 have := gcV_low (J := []) hH hf
 rwa [List.append_nil] at this
theorem gcVd {H : Heap} (hH : Cl H) (J : Heap) (v : DV) : gcV H.length (.d v) (H ++ J) = (.d v, H) := gcV_low hH (by simp [PV.refs])
theorem gcVd0 {H : Heap} (hH : Cl H) (v : DV) : gcV H.length (.d v) H = (.d v, H) := gcV_self hH (by simp [PV.refs])
noncomputable def finR (E : Env) (rs : List RV) (base : Nat) : KC (PV × Heap)
 | .exit _, _, _ => none
 | _, fr, H => bo (runG E (ghosts fr) H) (.h fun H => bo (results fr H rs) (.h fun vs => some (gcV base (packed vs) H)))
theorem ref_k (T : Tab) {f : Nat} {F : PF} (hF : T.F f = some F) {args : List PV} {H : Heap} (ha : args.length = F.nargs) : T.ref f args H = kC T.env H.length (Fr.ofArgs 0 args) H (.h (F.body, finR T.env F.results H.length)) := by
 rw [ref_eq T hF]
 unfold evalF
 rw [if_pos ha]
 simp only [kC]
 cases evalC T.env lpI H.length F.body ⟨Fr.ofArgs 0 args, H⟩ with
 | none => rfl
 | some x =>
  obtain ⟨e, s⟩ := x
  cases e with
  | exit id => rfl
  | norm =>
   simp only [finR]
   cases runG T.env (ghosts s.fr) s.H with
   | none => rfl
   | some H' => simp only [bo]; cases results s.fr H' F.results <;> rfl
  | ret =>
   simp only [finR]
   cases runG T.env (ghosts s.fr) s.H with
   | none => rfl
   | some H' => simp only [bo]; cases results s.fr H' F.results <;> rfl
section
variable {E : Env} {rs : List RV} {base : Nat} {fr : Fr} {H : Heap}
theorem finR_ret (h : ghosts fr = []) : finR E rs base .ret fr H = bo (results fr H rs) (.h fun vs => some (gcV base (packed vs) H)) := by
 simp only [finR, h]; rfl
theorem finR_norm (h : ghosts fr = []) : finR E rs base .norm fr H = bo (results fr H rs) (.h fun vs => some (gcV base (packed vs) H)) := by
 simp only [finR, h]; rfl
theorem put_0 (y x : Option Obj) (H : Heap) : Heap.put (y :: H) 0 x = x :: H := rfl
theorem put_s (y x : Option Obj) (H : Heap) (n : Nat) : Heap.put (y :: H) (n + 1) x = y :: Heap.put H n x := rfl
theorem put_app (H : Heap) (J : Heap) (x : Option Obj) (i : Nat) : Heap.put (H ++ J) (H.length + i) x = H ++ Heap.put J i x := by
 simp [Heap.put]
theorem put_app0 (H : Heap) (J : Heap) (x : Option Obj) : Heap.put (H ++ J) H.length x = H ++ Heap.put J 0 x := put_app H J x 0
theorem obj_app (H J : Heap) (i : Nat) : Heap.obj (H ++ J) (H.length + i) = Heap.obj J i := by
 simp [Heap.obj, List.getElem?_append_right]
theorem obj_app0 (H J : Heap) : Heap.obj (H ++ J) H.length = Heap.obj J 0 := obj_app H J 0
end
def RetF {R : Type} (n : Nat) (k : KC R) (r : Option R) : Prop := ∀ fr H, fr.get n = .d (.b false) → ghosts fr = [] → k .ret fr H = r
theorem RetF_bl {R : Type} {n id : Nat} {k : KC R} {r : Option R} : RetF n (blK id k) r = RetF n k r := rfl
theorem RetF_sq {R : Type} {n : Nat} {E : Env} {base : Nat} {b : PC} {k : KC R} {r : Option R} : RetF n (sqK E base b k) r = RetF n k r := rfl
theorem RetF_fin {n : Nat} {E : Env} : RetF n (fin E [.t n]) (some (.d (.b false), false)) = True := by
 refine eq_true ?_
 intro fr H h1 h2
 rw [fin_ret h2, bo_rest, bo_res0, h1]
 rfl
theorem Cl_b2 (k k' : K) (v w : DV) : Cl [some (.box k (.d v)), some (.box k' (.d w))] := fun r h => by simp [heapRefs, orefs, Obj.refs, PV.refs] at h
end Go.Sim
end
section
namespace Go.Sim
section
variable {R : Type} {E : Env} {ρ : Rand → PV} {H : Heap} {id : Nat} {q : PV → Heap → Option R}
def eqbK (neg : Bool) (x y : PV) {q : PV → Option R} (_ : Hd q) : Option R := match x, y with
 | .d (.b a), .d (.b b) => q (.d (.b (if neg = true then !(a == b) else a == b)))
 | _, _ => none
theorem eqbK_b (neg a b : Bool) {q : PV → Option R} : eqbK neg (.d (.b a)) (.d (.b b)) (.h q) = q (.d (.b (if neg = true then !(a == b) else a == b))) := rfl
theorem b_eqb {neg : Bool} {x y : Rand} : bo2 (evalOp E ρ H id (.eqb neg x y)) (.h q) = eqbK neg (ρ x) (ρ y) (.h fun v => q v H) := by
 simp only [evalOp, eqbK]
 cases ρ x with
 | d v =>
  cases v with
  | b a =>
   cases ρ y with
   | d w => cases w <;> rfl
   | _ => rfl
  | _ => rfl
 | _ => rfl
end
end Go.Sim
end
section
namespace Go.Sim
section
variable {R α : Type} {E : Env} {fr : Fr} {H : Heap} {bf : List Nat} {acc : List (List Nat × List Nat)} {id : Nat} {j : KO R}
def nfp (x : α) {k : α → Option R} (_ : Hd k) : Option R := k x
theorem nfp_go (x : α) (k : α → Option R) : nfp x (.h k) = k x := rfl
def accD (bf : List Nat) (acc : List (List Nat × List Nat)) (W T : List Nat) : Bool × List (List Nat × List Nat) := (pairsD (bf.headD 0) 0 acc (W ++ T) W, acc ++ [(W ++ T, W)])
noncomputable def aftD (E : Env) (id : Nat) (fr : Fr) (H : Heap) (bf : List Nat) (acc : List (List Nat × List Nat)) (o : IOper) (fr' : Fr) (H' : Heap) {r : List IOper} {j : KO R} (_ : Hd (r, j)) : Option R :=
 nfp (accD bf acc (writeS E o id ⟨fr, H⟩ ⟨fr', H'⟩) (touchS E o ⟨fr, H⟩)) (.h fun w => chk (w.1 = true) (.h (kD E (nid o.op id) fr' H' bf.tail w.2 (.h (r, j)))))
theorem kDq_nil : kD E id fr H bf acc (.h ([], j)) = j fr H := rfl
theorem kD_cons (o : IOper) (r : List IOper) : kD E id fr H bf acc (.h (o :: r, j)) = match stepD E o id ⟨fr, H⟩ with | some s' => aftD E id fr H bf acc o s'.fr s'.H (.h (r, j)) | none => none := by
 simp only [kD, evalOpsD]
 cases stepD E o id ⟨fr, H⟩ with
 | none => rfl
 | some s' =>
  obtain ⟨f, h⟩ := s'
  by_cases hp : pairsD (bf.headD 0) 0 acc (writeS E o id ⟨fr, H⟩ ⟨f, h⟩ ++ touchS E o ⟨fr, H⟩) (writeS E o id ⟨fr, H⟩ ⟨f, h⟩) = true
  ·simp only [aftD, nfp, accD, chk, nid, hp, if_true, kD]
  ·simp only [aftD, nfp, accD, chk, hp, if_false, Bool.false_eq_true]
theorem kDq_O {d : Nat} {op : IOp} {r : List IOper} : kD E id fr H bf acc (.h (⟨some d, op, none⟩ :: r, j)) = bo2 (evalOpD E (rd E fr) H id op) (.h fun v H' => aftD E id fr H bf acc ⟨some d, op, none⟩ (fr.set d v) H' (.h (r, j))) := by
 rw [kD_cons]; simp only [stepD, bo2]
 cases evalOpD E (rd E fr) H id op <;> rfl
theorem kDq_E {op : IOp} {r : List IOper} : kD E id fr H bf acc (.h (⟨none, op, none⟩ :: r, j)) = bo2 (evalOpD E (rd E fr) H id op) (.h fun _ H' => aftD E id fr H bf acc ⟨none, op, none⟩ fr H' (.h (r, j))) := by
 rw [kD_cons]; simp only [stepD, bo2]
 cases evalOpD E (rd E fr) H id op <;> rfl
theorem aftD_go {o : IOper} {fr' : Fr} {H' : Heap} {r : List IOper} : aftD E id fr H bf acc o fr' H' (.h (r, j)) = nfp (accD bf acc (writeS E o id ⟨fr, H⟩ ⟨fr', H'⟩) (touchS E o ⟨fr, H⟩)) (.h fun w => chk (w.1 = true) (.h (kD E (nid o.op id) fr' H' bf.tail w.2 (.h (r, j))))) := rfl
theorem evalOpD_ok {ρ : Rand → PV} {x : IOp} (h : x.okD ρ = true) : evalOpD E ρ H id x = evalOp E ρ H id x := by simp [evalOpD, h]
theorem bo2_ok {ρ : Rand → PV} {x : IOp} {k : PV → Heap → Option R} (h : x.okD ρ = true) : bo2 (evalOpD E ρ H id x) (.h k) = bo2 (evalOp E ρ H id x) (.h k) := by rw [evalOpD_ok h]
theorem d_mov {ρ : Rand → PV} {k : PV → Heap → Option R} {x : Rand} : bo2 (evalOpD E ρ H id (.mov x)) (.h k) = bo2 (evalOp E ρ H id (.mov x)) (.h k) := rfl
theorem d_agg {ρ : Rand → PV} {k : PV → Heap → Option R} {z : List DV} {parts : List (Nat × Sim.K × Rand)} : bo2 (evalOpD E ρ H id (.agg z parts)) (.h k) = bo2 (evalOp E ρ H id (.agg z parts)) (.h k) := rfl
theorem d_bsl {ρ : Rand → PV} {k : PV → Heap → Option R} {kx : Sim.K} {z : DV} {len : Nat} {parts : List (Nat × Rand)} : bo2 (evalOpD E ρ H id (.bsl kx z len parts)) (.h k) = bo2 (evalOp E ρ H id (.bsl kx z len parts)) (.h k) := rfl
theorem d_load {ρ : Rand → PV} {k : PV → Heap → Option R} {kx : Sim.K} {x : Rand} : bo2 (evalOpD E ρ H id (.load kx x)) (.h k) = bo2 (evalOp E ρ H id (.load kx x)) (.h k) := rfl
theorem d_store {ρ : Rand → PV} {k : PV → Heap → Option R} {kx : Sim.K} {x y : Rand} : bo2 (evalOpD E ρ H id (.store kx x y)) (.h k) = bo2 (evalOp E ρ H id (.store kx x y)) (.h k) := rfl
theorem d_bin {ρ : Rand → PV} {k : PV → Heap → Option R} {op : BinOp} {x y : Rand} : bo2 (evalOpD E ρ H id (.bin op x y)) (.h k) = bo2 (evalOp E ρ H id (.bin op x y)) (.h k) := rfl
theorem d_faddr {ρ : Rand → PV} {k : PV → Heap → Option R} {off : Nat} {x : Rand} : bo2 (evalOpD E ρ H id (.faddr off x)) (.h k) = bo2 (evalOp E ρ H id (.faddr off x)) (.h k) := rfl
theorem d_iaddr {ρ : Rand → PV} {k : PV → Heap → Option R} {kx : Sim.K} {x i : Rand} : bo2 (evalOpD E ρ H id (.iaddr kx x i)) (.h k) = bo2 (evalOp E ρ H id (.iaddr kx x i)) (.h k) := rfl
theorem d_call0 {ρ : Rand → PV} {k : PV → Heap → Option R} {f : Nat} {args : List Rand} : bo2 (evalOpD E ρ H id (.call 0 f args)) (.h k) = bo2 (evalOp E ρ H id (.call 0 f args)) (.h k) := rfl
end
end Go.Sim
end
section
namespace Go.Sim
theorem fits_i (k : IntKind) (n : Int) : fits none (.d (.i k n)) = true := rfl
theorem fits_b (b : Bool) : fits none (.d (.b b)) = true := rfl
theorem fits_s (l : List UInt8) : fits none (.d (.s l)) = true := rfl
theorem fits_l (k : K) (l : List DV) (t : Bool) : fits none (.d (.l k l t)) = true := rfl
theorem fits_a (n : Nat) (l : List DV) : fits (some n) (.d (.a l)) = (l.length == n) := rfl
theorem purT_t {H : Heap} {vs : List PV} : purT H (.t vs) = match purs H vs with | some (xs, _) => some (.t (xs.map .d), false) | none => none := rfl
theorem lt0_nat (j : Nat) : ((j : Int) < 0) = False := by simp
section
variable {R : Type} {E : Env} {ρ : Rand → PV} {H : Heap} {id : Nat} {q : PV → Heap → Option R}
theorem plains_d : ∀ z : List DV, plains (z.map .d) = some z
 | [] => rfl
 | x :: z => by simp [plains, plains_d z]
theorem b_agg0 {z : List DV} : bo2 (evalOp E ρ H id (.agg z [])) (.h q) = q (.d (.a z)) H := by
 simp only [evalOp, List.map_nil, aggA, mkA, plains_d]; rfl
end
end Go.Sim
end
section
namespace Go.Sim
section
variable {R : Type} {E : Env} {ρ : Rand → PV} {H : Heap} {id : Nat} {q : PV → Heap → Option R} {k : K} {b : Nat}
theorem pur_dv (v : DV) : pur H (.d v) = some (v, []) := rfl
theorem frz_n : frz H [] = H := rfl
theorem b_bsl0 {z : DV} : bo2 (evalOp E ρ H id (.bsl k z 0 [])) (.h q) = q (.r id k 0 0 true) (H.put id (some (.sl k 0 []))) := rfl
theorem b_bsl1 {z : DV} {r : Rand} : bo2 (evalOp E ρ H id (.bsl k z 1 [(0, r)])) (.h q) = chk (fits k (ρ r) = true) (.h (bo (pur H (ρ r)) (.h fun p => q (.r id k 0 1 true) ((frz H p.2).put id (some (.sl k 0 [p.1])))))) := by
 simp only [evalOp, List.map_cons, List.map_nil, bslA, chk]
 by_cases h : fits k (ρ r) = true
 ·simp only [h, if_true, Bool.true_and]
  cases pur H (ρ r) with
  | none => simp [bo, bo2]
  | some p => obtain ⟨x, os⟩ := p; simp [bo, bo2]
 ·simp [h, bo2]
def appE (H : Heap) (id : Nat) (k : K) (bytes : Nat) (x : PV) (ys : List DV) : Option (PV × Heap) := appA H id k bytes x (.d (.l k ys true))
theorem app_l {x : PV} {k' : K} {ys : List DV} {t : Bool} : bo2 (appA H id k b x (.d (.l k' ys t))) (.h q) = chk ((K.eq k k' || ys.isEmpty) = true) (.h (bo2 (appE H id k b x ys) (.h q))) := by
 simp only [appA, appE, elemsA, chk, K_refl, Bool.true_or, if_true]
 by_cases h : (K.eq k k' || ys.isEmpty) = true
 ·simp only [h, if_true]
 ·simp only [h, if_false, Bool.false_eq_true]; rfl
theorem app_r {x : PV} {o off len : Nat} {k' : K} {t : Bool} : bo2 (appA H id k b x (.r o k' off len t)) (.h q) = match H.obj o with | some (.sl k'' _ es) => chk ((K.eq k k' && K.eq k k'' && decide (off + len ≤ es.length)) = true) (.h (bo2 (appE H id k b x ((es.drop off).take len)) (.h q))) | _ => none := by
 simp only [appA, appE, elemsA]
 cases H.obj o with
 | none => rfl
 | some y =>
  cases y with
  | sl k'' ro es =>
   simp only [chk]
   by_cases h : (K.eq k k' && K.eq k k'' && decide (off + len ≤ es.length)) = true
   ·simp only [h, if_true, K_refl, Bool.true_or]
   ·simp only [h, if_false, Bool.false_eq_true]; rfl
  | _ => rfl
theorem appE_n {k' : K} {ys : List DV} : bo2 (appE H id k b (.d (.l k' [] true)) ys) (.h q) = chk (ys.length * b ≤ 2 ^ 47) (.h (q (.r id k 0 ys.length false) (H.put id (some (.sl k 0 ys))))) := by
 simp only [appE, appA, elemsA, K_refl, Bool.true_or, if_true, chk, List.length_nil, Nat.zero_add]
 by_cases h : ys.length * b ≤ 2 ^ 47
 ·simp only [h, if_true]; rfl
 ·simp only [h, if_false]; rfl
theorem appE_r {o off len : Nat} {k' : K} {t : Bool} {y : DV} {ys : List DV} : bo2 (appE H id k b (.r o k' off len t) (y :: ys)) (.h q) = match H.obj o with
  | some (.sl k'' ro es) => chk ((K.eq k k' && K.eq k k'' && decide (off + len ≤ es.length) && decide ((len + (ys.length + 1)) * b ≤ 2 ^ 47)) = true) (.h (brn t (.h (q (.r id k 0 (len + (ys.length + 1)) false) (H.put id (some (.sl k 0 ((es.drop off).take len ++ y :: ys)))), chk (ro ≤ off + len) (.h (q (.r id k 0 (len + (ys.length + 1)) false) ((H.put o none).put id (some (.sl k (ro - off) ((es.drop off).take len ++ y :: ys))))))))))
  | _ => none := by
 simp only [appE, appA, elemsA, K_refl, Bool.true_or, if_true, List.length_cons]
 cases H.obj o with
 | none => rfl
 | some w =>
  cases w with
  | sl k'' ro es =>
   simp only [chk]
   by_cases h : (K.eq k k' && K.eq k k'' && decide (off + len ≤ es.length) && decide ((len + (ys.length + 1)) * b ≤ 2 ^ 47)) = true
   ·simp only [h, if_true]
    cases t with
    | true => rfl
    | false =>
     simp only [Bool.false_eq_true, if_false, brn]
     by_cases g : ro ≤ off + len
     ·simp only [g, if_true]; rfl
     ·simp only [g, if_false]; rfl
   ·simp only [h, if_false, Bool.false_eq_true]; rfl
  | _ => rfl
def mkifK (t : Nat) (x : PV) (H : Heap) {q : PV → Heap → Option R} (_ : Hd q) : Option R := match pur H x with
 | some (v, os) => q (.d (.ifc t v)) (frz H os)
 | none => q (.w t x) H
theorem mkifK_d {t : Nat} {v : DV} : mkifK t (.d v) H (.h q) = q (.d (.ifc t v)) H := rfl
theorem b_mkif {t : Nat} {x : Rand} : bo2 (evalOp E ρ H id (.mkif t x)) (.h q) = mkifK t (ρ x) H (.h q) := by
 simp only [evalOp, mkifK]
 cases pur H (ρ x) with
 | none => rfl
 | some p => rfl
def tasK (t : Nat) (z : DV) (ok : Bool) (x : PV) {q : PV → Option R} (_ : Hd q) : Option R := match x with
 | .d (.ifc u v) => if u = t then q (if ok then .t [.d v, .d (.b true)] else .d v) else if ok then q (.t [.d z, .d (.b false)]) else none
 | .w u v => if u = t then q (if ok then .t [v, .d (.b true)] else v) else if ok then q (.t [.d z, .d (.b false)]) else none
 | .d .ni => if ok then q (.t [.d z, .d (.b false)]) else none
 | _ => none
theorem tasK_i {t u : Nat} {z v : DV} {ok : Bool} {q : PV → Option R} : tasK t z ok (.d (.ifc u v)) (.h q) = if u = t then q (if ok then .t [.d v, .d (.b true)] else .d v) else if ok then q (.t [.d z, .d (.b false)]) else none := rfl
theorem b_tas {t : Nat} {z : DV} {ok : Bool} {x : Rand} : bo2 (evalOp E ρ H id (.tas t z ok x)) (.h q) = tasK t z ok (ρ x) (.h fun v => q v H) := by
 simp only [evalOp, tasK]
 cases ρ x with
 | d v =>
  cases v with
  | ifc u w => by_cases h : u = t <;> cases ok <;> simp [h, bo2]
  | ni => cases ok <;> rfl
  | _ => rfl
 | w u v => by_cases h : u = t <;> cases ok <;> simp [h, bo2]
 | _ => rfl
theorem b_agg {z : List DV} {ps : List (Nat × Sim.K × Rand)} : bo2 (evalOp E ρ H id (.agg z ps)) (.h q) = bo (aggA (z.map .d) (ps.map fun x => (x.1, x.2.1, ρ x.2.2))) (.h fun cs => q (mkA cs) H) := by
 simp only [evalOp]
 cases aggA (z.map .d) (ps.map fun x => (x.1, x.2.1, ρ x.2.2)) <;> rfl
theorem agg_n {z : List PV} {y : List PV → Option R} : bo (aggA z []) (.h y) = y z := rfl
theorem agg_c {z : List PV} {off : Nat} {v : PV} {k : Sim.K} {r : List (Nat × Sim.K × PV)} {y : List PV → Option R} : bo (aggA z ((off, k, v) :: r)) (.h y) = chk ((fits k v && decide (off + k.size ≤ z.length)) = true) (.h (bo (aggA (putAt z off v.cells) r) (.h y))) := by
 simp only [aggA, chk]
 split <;> simp_all [bo]
theorem cells_i {k : IntKind} {n : Int} : PV.cells (.d (.i k n)) = [.d (.i k n)] := rfl
theorem size_n : K.size none = 1 := rfl
theorem b_mm2 {mx : Bool} {x y : Rand} : bo2 (evalOp E ρ H id (.minmax mx [x, y])) (.h q) = bo (mm2 mx (ρ x) (ρ y)) (.h fun v => q v H) := by
 simp only [evalOp, List.map_cons, List.map_nil, mmA]
 cases mm2 mx (ρ x) (ρ y) <;> rfl
theorem bo_mm2 {k : IntKind} {a b : Int} {y : PV → Option R} : bo (mm2 true (.d (.i k a)) (.d (.i k b))) (.h y) = y (.d (.i k (max a b))) := by
 have h : (if b > a then b else a) = max a b := by rw [Int.max_def]; split <;> split <;> omega
 simp only [mm2, if_true, h]
 rfl
theorem purT_f {t : Nat} {v : DV} : purT H (.d (.ifc t v)) = some (.d (.ifc t v), false) := rfl
theorem purT_r {o off len : Nat} {k : K} {t : Bool} : purT H (.r o k off len t) = match H.obj o with
  | some (.sl k' ro es) => if k' = k ∧ off + len ≤ es.length then some (.d (.l k ((es.drop off).take len) false), decide (ro ≤ off)) else none
  | _ => none := rfl
theorem bo_lenR {o off len : Nat} {k : K} {t : Bool} {y : Nat → Option R} : bo (lenA H false (.r o k off len t)) (.h y) = match H.obj o with
  | some (.sl _ _ es) => chk (off + len ≤ es.length) (.h (y len))
  | _ => none := by
 simp only [lenA, Bool.false_eq_true, if_false]
 cases H.obj o with
 | none => rfl
 | some w =>
  cases w with
  | sl k' ro es =>
   simp only [chk]
   by_cases h : off + len ≤ es.length
   ·simp only [h, if_true]; rfl
   ·simp only [h, if_false]; rfl
  | _ => rfl
end
end Go.Sim
end
section
namespace Go.Sim
theorem it_k (T : Tab) {f : Nat} {F : PF} (hF : T.F f = some F) (Y : Nat → List PV → Heap → Option (PV × Heap)) {args : List PV} {H : Heap} (ha : args.length = F.nargs) : T.it Y f args H = kC (T.envY Y) H.length (Fr.ofArgs 0 args) H (.h (F.body, finR (T.envY Y) F.results H.length)) := by
 rw [it_eq T hF]
 unfold evalF
 rw [if_pos ha]
 simp only [kC]
 cases evalC (T.envY Y) lpI H.length F.body ⟨Fr.ofArgs 0 args, H⟩ with
 | none => rfl
 | some x =>
  obtain ⟨e, s⟩ := x
  cases e with
  | exit id => rfl
  | norm =>
   simp only [finR]
   cases runG (T.envY Y) (ghosts s.fr) s.H with
   | none => rfl
   | some H' => simp only [bo]; cases results s.fr H' F.results <;> rfl
  | ret =>
   simp only [finR]
   cases runG (T.envY Y) (ghosts s.fr) s.H with
   | none => rfl
   | some H' => simp only [bo]; cases results s.fr H' F.results <;> rfl
section
variable {R : Type} {E : Env} {base : Nat} {fr : Fr} {H : Heap} {k : KC R}
noncomputable def rngK (E : Env) (a x : PC) (fr : Fr) (o : Nat) (ps : List Nat) : Nat → List PV → Heap → Option (PV × Heap) := rngY (fun b s => evalC E lpI b a s) (fun b s => evalC E lpI b x s) fr o ps E.yld
def rngE (k : KC R) (fr : Fr) (g o : Nat) (H : Heap) : Option R := match H.obj o with
 | some (.lp 0 none) => k .norm (fr.set g (.g (.h (o + 1)))) (H.put o none)
 | some (.lp 1 (some e)) => k e (fr.set g (.g (.h (o + 1)))) (H.put o none)
 | _ => none
noncomputable def rngS (E : Env) (fr : Fr) (H : Heap) (a x : PC) (live ps : List Nat) (g : Nat) (v w : PV) {k : KC R} (_ : Hd k) : Option R := match v, w with
 | .f n caps, .u => bo (E.it (rngK E a x (Fr.only live fr) H.length ps) n (.h H.length :: caps) (H ++ [some (.lp 0 none), some .df])) (.h fun p => rngE k fr g H.length p.2)
 | _, _ => none
theorem rngS_f {a x : PC} {live ps : List Nat} {g n : Nat} {caps : List PV} : rngS E fr H a x live ps g (.f n caps) .u (.h k) = bo (E.it (rngK E a x (Fr.only live fr) H.length ps) n (.h H.length :: caps) (H ++ [some (.lp 0 none), some .df])) (.h fun p => rngE k fr g H.length p.2) := rfl
theorem kC_rng {f : Rand} {g : Nat} {ps live : List Nat} {a x : PC} : kC E base fr H (.h (.rng f g ps live a x, k)) = rngS E fr H a x live ps g (rd E fr f) (fr.get g) (.h k) := by
 simp only [kC, evalC, rngS, rngK]
 cases rd E fr f with
 | f n caps =>
  cases fr.get g with
  | u =>
   simp only
   cases E.it (rngY (fun b s => evalC E lpI b a s) (fun b s => evalC E lpI b x s) (Fr.only live fr) H.length ps E.yld) n (.h H.length :: caps) (H ++ [some (.lp 0 none), some .df]) with
   | none => rfl
   | some p =>
    obtain ⟨v, H'⟩ := p
    simp only [bo, rngE]
    cases hh : H'.obj H.length with
    | none => rfl
    | some y =>
     cases y with
     | lp st j => match st, j with
      | 0, none => rfl
      | 0, some _ => rfl
      | 1, none => rfl
      | 1, some e => rfl
      | (n + 2), _ => rfl
     | _ => rfl
  | _ => rfl
 | _ => rfl
theorem rngK_go {a x : PC} {o : Nat} {ps : List Nat} {args : List PV} (hl : args.length = ps.length) (ho : H.obj o = some (.lp 0 none)) : rngK E a x fr o ps o args H =
  kC E H.length (setA fr ps args) H (.h (a, fun e fr1 H1 => match e with
   | .norm => match H1.obj o with
    | some (.lp 0 none) => kC E H.length fr1 (H1.put o (some (.lp 2 none))) (.h (x, fun e2 _ H2 => match H2.obj o with
     | some (.lp 2 none) => some (gcV H.length (.d (.b (isN e2))) (H2.put o (some (if isN e2 then .lp 0 none else .lp 1 (some e2)))))
     | _ => none))
    | _ => none
   | _ => none)) := by
 simp only [rngK, rngY, if_pos hl, if_true, ho, kC]
 cases evalC E lpI H.length a ⟨setA fr ps args, H⟩ with
 | none => rfl
 | some p =>
  obtain ⟨e, s1⟩ := p
  cases e with
  | norm =>
   simp only
   cases hh : s1.H.obj o with
   | none => rfl
   | some y =>
    cases y with
    | lp st j => match st, j with
     | 0, none =>
      simp only
      cases evalC E lpI H.length x ⟨s1.fr, s1.H.put o (some (.lp 2 none))⟩ with
      | none => rfl
      | some q => rfl
     | 0, some _ => rfl
     | (n + 1), _ => rfl
    | _ => rfl
  | _ => rfl
theorem envY_yld (T : Tab) (Y : Nat → List PV → Heap → Option (PV × Heap)) : (T.envY Y).yld = Y := rfl
theorem env_it (T : Tab) (Y : Nat → List PV → Heap → Option (PV × Heap)) : T.env.it Y = T.it Y := rfl
theorem callvK_h {o : Nat} {as0 : List PV} {q : PV → Heap → Option R} : callvK E H (.h o) as0 (.h q) = bo2 (E.yld o as0 H) (.h q) := rfl
end
theorem reach_done (H : Heap) (m : Nat) : ∀ (n : Nat) (todo : List Nat), (∀ r ∈ todo, r ≤ m) → reach H m n [m] todo = [m]
 | 0, _, _ => rfl
 | n + 1, [], _ => rfl
 | n + 1, o :: todo, h => by
  rw [reach]
  have h1 := h o (List.mem_cons_self ..)
  by_cases g : o < m
  ·rw [if_pos g]; exact reach_done H m n todo fun r hr => h r (List.mem_cons_of_mem _ hr)
  ·have : o = m := by omega
   subst this
   rw [if_neg g, if_pos (by simp)]
   exact reach_done H o n todo fun r hr => h r (List.mem_cons_of_mem _ hr)
theorem reach_one (H : Heap) (m : Nat) (hm : orefs (H.obj m) = []) : ∀ (fs low : List Nat) (n : Nat), fs.length < n → (∀ r ∈ fs, r ≤ m) → (∀ r ∈ low, r ≤ m) → m ∈ fs → reach H m n [] (fs ++ low) = [m]
 | [], _, _, _, _, _, h => by cases h
 | o :: fs, low, 0, hn, _, _, _ => absurd hn (Nat.not_lt_zero _)
 | o :: fs, low, n + 1, hn, h1, h2, h => by
  rw [List.cons_append, reach]
  have ho := h1 o (List.mem_cons_self ..)
  by_cases g : o < m
  ·rw [if_pos g]
   refine reach_one H m hm fs low n (by simp at hn; omega) (fun r hr => h1 r (List.mem_cons_of_mem _ hr)) h2 ?_
   rcases List.mem_cons.1 h with h | h
   ·omega
   ·exact h
  ·have : o = m := by omega
   subst this
   rw [if_neg g, if_neg (by simp), hm, List.nil_append, List.nil_append]
   exact reach_done H o n _ fun r hr => by
    rcases List.mem_append.1 hr with hr | hr
    ·exact h1 r (List.mem_cons_of_mem _ hr)
    ·exact h2 r hr
theorem gc_one (live : List Nat) {H J : Heap} {y : Option Obj} {fr : Fr} (hH : Cl H) (hy : orefs y = []) (hn : (frRefs (Fr.keep live fr)).length < 1000) (hf : ∀ r ∈ frRefs (Fr.keep live fr), r ≤ H.length) (hmem : H.length ∈ frRefs (Fr.keep live fr)) : gc live H.length ⟨fr, H ++ y :: J⟩ = ⟨Fr.keep live fr, H ++ [y]⟩ := by
 have ht : (H ++ y :: J).take H.length = H := by simp
 have hobj : (H ++ y :: J).obj H.length = y := obj_app0 H (y :: J)
 have hr : reach (H ++ y :: J) H.length 1000 [] (frRefs (Fr.keep live fr) ++ heapRefs H) = [H.length] := reach_one _ _ (by rw [hobj]; exact hy) _ _ _ hn hf (fun r hr => Nat.le_of_lt (hH r hr)) hmem
 have hp : ∀ r, r ≤ H.length → place H.length [H.length] r = some r := fun r h => by
  by_cases g : r < H.length
  ·simp [place, g]
  ·have : r = H.length := by omega
   subst this
   simp [place, List.idxOf?_cons]
 simp only [gc, ht, hr, gcH, List.map_cons, List.map_nil, hobj]
 rw [fr_id (fun r h => hp r (hf r h)), heap_id (fun r h => hp r (Nat.le_of_lt (hH r h))), orenO_id (fun r h => by rw [hy] at h; cases h)]
end Go.Sim
end
section
namespace Go.Sim
section
variable {R : Type} {E : Env} {ρ : Rand → PV} {H : Heap} {id : Nat} {q : PV → Heap → Option R} {base : Nat}
theorem bo_iaR {K K' : Sim.K} {o off len : Nat} {t : Bool} {kk : IntKind} {n : Int} {y : PV → Option R} : bo (iaddr H K (.r o K' off len t) (.d (.i kk n))) (.h y) = chk (0 ≤ n ∧ n < len) (.h (match H.obj o with | some (.sl K2 _ es) => chk ((K.eq K' && K.eq K2 && decide (off + len ≤ es.length)) = true) (.h (y (.p o (off + n.toNat) 0))) | _ => none)) := by
 simp only [iaddr, asI, inR, chk]
 by_cases h : 0 ≤ n ∧ n < len
 ·rw [if_pos h, if_pos h]
  cases H.obj o with
  | none => rfl
  | some x =>
   cases x with
   | sl k2 ro es => simp only; split <;> rfl
   | _ => rfl
 ·rw [if_neg h, if_neg h]
  simp only
  rfl
theorem b_iaddrA {len : Nat} {k : Sim.K} {x i : Rand} : bo2 (evalOp E ρ H id (.iaddrA len k x i)) (.h q) = bo (asI (ρ i)) (.h fun (n : Int) => chk (0 ≤ n ∧ n < len) (.h (bo (moveA (n.toNat * k.size) (ρ x)) (.h fun v => q v H)))) := by
 simp only [evalOp]
 cases asI (ρ i) with
 | none => rfl
 | some n =>
  simp only [bo, inR, chk]
  by_cases h : 0 ≤ n ∧ n < len
  ·rw [if_pos h, if_pos h]; simp only
   cases moveA (n.toNat * k.size) (ρ x) <;> rfl
  ·rw [if_neg h, if_neg h]; rfl
theorem bo_asI {kk : IntKind} {n : Int} {y : Int → Option R} : bo (asI (.d (.i kk n))) (.h y) = y n := rfl
theorem b_mksl {k : Sim.K} {b : Nat} {z : DV} {len cap : Rand} : bo2 (evalOp E ρ H id (.mksl k b z len cap)) (.h q) = bo (asI (ρ len)) (.h fun (n : Int) => bo (asI (ρ cap)) (.h fun (c : Int) => chk (0 ≤ n ∧ n ≤ c ∧ c * b ≤ 2 ^ 47) (.h (q (.r id k 0 n.toNat false) (H.put id (some (.sl k 0 (List.replicate n.toNat z)))))))) := by
 simp only [evalOp]
 cases asI (ρ len) with
 | none => rfl
 | some n =>
  cases asI (ρ cap) with
  | none => rfl
  | some c => simp only [bo, chk]; split <;> rfl
theorem b_bsl {k : Sim.K} {z : DV} {len : Nat} {ps : List (Nat × Rand)} : bo2 (evalOp E ρ H id (.bsl k z len ps)) (.h q) = bo (bslA H k (List.replicate len z) (ps.map fun x => (x.1, ρ x.2))) (.h fun p => q (.r id k 0 len true) ((frz H p.2).put id (some (.sl k 0 p.1)))) := by
 simp only [evalOp]
 cases bslA H k (List.replicate len z) (ps.map fun x => (x.1, ρ x.2)) <;> rfl
theorem bsl_n {k : Sim.K} {es : List DV} {y : List DV × List Nat → Option R} : bo (bslA H k es []) (.h y) = y (es, []) := rfl
theorem bsl_c {k : Sim.K} {es : List DV} {j : Nat} {v : DV} {r : List (Nat × PV)} {y : List DV × List Nat → Option R} : bo (bslA H k es ((j, .d v) :: r)) (.h y) = chk ((fits k (.d v) && decide (j < es.length)) = true) (.h (bo (bslA H k (es.set j v) r) (.h y))) := by
 simp only [bslA, chk]
 by_cases h : (fits k (.d v) && decide (j < es.length)) = true
 ·simp only [h, if_true, pur, purC]
  cases bslA H k (es.set j v) r with
  | none => rfl
  | some p => simp [bo]
 ·simp only [h, if_false, Bool.false_eq_true]; rfl
theorem bo_mm2f {k : IntKind} {a b : Int} {y : PV → Option R} : bo (mm2 false (.d (.i k a)) (.d (.i k b))) (.h y) = y (.d (.i k (min a b))) := by
 have h : (if b < a then b else a) = min a b := by rw [Int.min_def]; split <;> split <;> omega
 simp only [mm2, if_true, Bool.false_eq_true, if_false, h]
 rfl
theorem loop_iter {σ : Type} {live : List Nat} {body : PC} {k : KC R} (st : σ → St) (f : Nat → σ) (n : Nat) {r : Option R}
  (hend : ∀ B, B = body → kC E base (st (f n)).fr (st (f n)).H (.h (body, lpK E base live B k)) = r)
  (hround : ∀ B, B = body → ∀ i, i < n → ∀ c, (∀ fr H, gc live base ⟨fr, H⟩ = st (f (i + 1)) → kC E base fr H (.h (.loop live B, k)) = c) → kC E base (st (f i)).fr (st (f i)).H (.h (body, lpK E base live B k)) = c)
  {fr : Fr} {H : Heap} (h0 : gc live base ⟨fr, H⟩ = st (f 0)) : kC E base fr H (.h (.loop live body, k)) = r := by
 rw [loop_rounds (List.replicate n ()) (fun i (_ : Unit) => st (f i)) (fun _ _ => True) (fun _ _ _ c => c ()) (fun _ => r) ?_ ?_ h0 trivial]
 ·have : ∀ (i : Nat) (l : List Unit), rounds (fun _ _ _ c => c ()) (fun _ => r) i () l = r := by
   intro i l
   induction l generalizing i with
   | nil => rfl
   | cons x l ih => exact ih (i + 1)
  exact this _ _
 ·intro B hB _ _
  simpa using hend B hB
 ·intro B hB i _ hi _ c hc
  exact hround B hB i (by simpa using hi) (c ()) fun fr H hg => hc () fr H trivial hg
end
end Go.Sim
end
section
namespace Go.Sim
def tabV : PT :=
 (.bin 885 F885 (.bin 684 F684 (.bin 71 F71 (.bin 65 F65 (.bin 39 F39 (.bin 22 F22 .nil .nil) .nil) (.bin 66 F66 .nil .nil)) (.bin 265 F265 (.bin 72 F72 .nil .nil) (.bin 544 F544 .nil .nil))) (.bin 881 F881 (.bin 879 F879 (.bin 801 F801 (.bin 708 F708 .nil .nil) .nil) (.bin 880 F880 .nil .nil)) (.bin 883 F883 (.bin 882 F882 .nil .nil) (.bin 884 F884 .nil .nil)))) (.bin 1039 F1039 (.bin 1035 F1035 (.bin 1030 F1030 (.bin 934 F934 (.bin 933 F933 .nil .nil) .nil) (.bin 1033 F1033 .nil .nil)) (.bin 1037 F1037 (.bin 1036 F1036 .nil .nil) (.bin 1038 F1038 .nil .nil))) (.bin 1051 F1051 (.bin 1047 F1047 (.bin 1046 F1046 (.bin 1045 F1045 .nil .nil) .nil) (.bin 1050 F1050 .nil .nil)) (.bin 1084 F1084 (.bin 1060 F1060 .nil .nil) (.bin 1092 F1092 .nil .nil)))))
abbrev HV (T : Tab) : Prop := ∀ n F, tabV.get n = some F → T.F n = some F
end Go.Sim
end
section
open Go.Sim
attribute [local simp ↓] kC_skip kC_ret kC_exit kC_seq kC_block kC_reg kC_cond kC_condc sqK blK lpK kO_nil kO_O kO_E kO_OG kO_EG grd_b grd_t tst_b brn_true brn_false brn_not chk_T b_mov b_pick b_alloc b_box b_load b_store b_bin b_un b_eqv b_faddr b_field b_iaddr b_sl b_len b_app b_call b_call1 b_callR b_ext bo_some bo_none bo2_some bo2_none bo_iaddr bo_addS bo_quo bo_rem bo_bnd bo_bnd0 ld_q0 ld_qw ld_p subP0 subPw bo_moveP bo_moveQ bo_lenl bo_lens bo_lenr bo_add bo_sub bo_mul bo_eql bo_neq bo_lss bo_leq bo_gtr bo_geq bo_neg bo_not bo_eqS bo_neS grd_nb b_slS slSK_s extK_t ownL_l fin_ret fin_norm bo_res0 bo_rest bo_resc st_p stK_box b_callv callvK_f0 callvK_f1 mkf_b subPs ld_qs kC_regS0 kC_regS1 kC_regS2 kC_regS3 kC_regS4 kC_regS5 b_eqb eqbK_b b_agg0 b_bsl0 b_bsl1 app_l app_r appE_n appE_r bo_lenR b_mkif mkifK_d b_tas tasK_i b_mm2 bo_mm2
attribute [local simp] K_refl obj_0 obj_s get_c get_n drop_c drop_n set_c set_n fix_c fix_n rd IOp.adds nadds gh nid rgK rdS ghosts_c ghosts_n packed1 packed2 purT_b purT_i purT_s purT_a purT_lt purT_lf K_ss K_ns K_sn plains_n plains_c env_val env_ref purs_n purs_d put_0 put_s fits_i fits_b fits_s fits_l lt0_nat fits_a purT_t pur_dv frz_n purT_r purT_f
section
namespace Go.Sim
set_option maxRecDepth 10000
set_option maxHeartbeats 4000000
def vday (d : Int) : Bool := decide (0 ≤ d) && decide (d ≤ 73048)
def leap (y : Int) : Bool := (y.tmod 4 == 0) && ((y.tmod 100 != 0) || (y.tmod 400 == 0))
def lnI (y m : Int) : Int := if m = 2 then (if leap y = true then 29 else 28) else if m = 4 ∨ m = 6 ∨ m = 9 ∨ m = 11 then 30 else if m = 1 ∨ m = 3 ∨ m = 5 ∨ m = 7 ∨ m = 8 ∨ m = 10 ∨ m = 12 then 31 else 0
def bgI (y : Int) : Int := 365 * (y - 2000) + (y - 2000 + 3) / 4 - (if 2100 < y then 1 else 0)
def cmI (y : Int) : Nat → Int
  | 0 => 0
  | n + 1 => cmI y n + lnI y (1 + n)
theorem val22 (T : Tab) (hT : HV T) (d : Int) : T.val 22 [I d] = some (.d (.b (vday d)), false) := by
  rw [val_k T (hT 22 F22 rfl) rfl]
  simp [F22, Fr.ofArgs, vday]
  repeat' (refine brn_split (fun h => ?_) (fun h => ?_) <;> (try simp at h) <;> (try simp [h]))
  all_goals omega
theorem val544 (T : Tab) (hT : HV T) (d : Int) : T.val 544 [I d] = some (.d (.b (vday d)), false) := by
  rw [val_k T (hT 544 F544 rfl) rfl]
  simp [F544, Fr.ofArgs, vday]
  repeat' (refine brn_split (fun h => ?_) (fun h => ?_) <;> (try simp at h) <;> (try simp [h]))
  all_goals omega
theorem val66 (T : Tab) (hT : HV T) (y : Int) : T.val 66 [I y] = some (.d (.b (leap y)), false) := by
  rw [val_k T (hT 66 F66 rfl) rfl]
  simp [F66, Fr.ofArgs, leap]
  repeat' (refine brn_split (fun h => ?_) (fun h => ?_) <;> (try simp at h) <;> (try simp [h]))
  all_goals simp_all
theorem val1060 (T : Tab) (hT : HV T) (y : Int) : T.val 1060 [I y] = some (.d (.b (leap y)), false) := by
  rw [val_k T (hT 1060 F1060 rfl) rfl]
  simp [F1060, Fr.ofArgs, leap]
  repeat' (refine brn_split (fun h => ?_) (fun h => ?_) <;> (try simp at h) <;> (try simp [h]))
  all_goals simp_all
theorem val1050 (T : Tab) (hT : HV T) (y : Int) : T.val 1050 [I y] = some (.d (I (if leap y = true then 366 else 365)), false) := by
  rw [val_k T (hT 1050 F1050 rfl) rfl]
  have e := val1060 T hT y
  simp [F1050, Fr.ofArgs, e]
  repeat' (refine brn_split (fun h => ?_) (fun h => ?_) <;> (try simp at h) <;> (try simp [h]))
  all_goals simp_all
theorem val1051 (T : Tab) (hT : HV T) (y m : Int) : T.val 1051 [I y, I m] = some (.d (I (lnI y m)), false) := by
  rw [val_k T (hT 1051 F1051 rfl) rfl]
  have e := val1060 T hT y
  simp [F1051, Fr.ofArgs]
  repeat' (refine brn_split (fun h => ?_) (fun h => ?_) <;> (try simp at h) <;> (try simp [h, e]))
  all_goals simp_all [lnI]
theorem val71 (T : Tab) (hT : HV T) (y : Int) (h1 : 2000 ≤ y) (h2 : y ≤ 3000) : T.val 71 [I y] = some (.d (I (bgI y)), false) := by
  rw [val_k T (hT 71 F71 rfl) rfl]
  have w1 : IntKind.i64.wrap (y - 2000) = y - 2000 := wrI (by omega) (by omega)
  have w2 : IntKind.i64.wrap (y - 2000 + 3) = y - 2000 + 3 := wrI (by omega) (by omega)
  have q : (y - 2000 + 3).tdiv 4 = (y - 2000 + 3) / 4 := Int.tdiv_eq_ediv_of_nonneg (by omega)
  have w3 : IntKind.i64.wrap ((y - 2000 + 3) / 4) = (y - 2000 + 3) / 4 := wrI (by omega) (by omega)
  have w4 : IntKind.i64.wrap (365 * (y - 2000)) = 365 * (y - 2000) := wrI (by omega) (by omega)
  have w5 : IntKind.i64.wrap ((y - 2000 + 3) / 4 - 1) = (y - 2000 + 3) / 4 - 1 := wrI (by omega) (by omega)
  have w6 : IntKind.i64.wrap (365 * (y - 2000) + ((y - 2000 + 3) / 4 - 1)) = 365 * (y - 2000) + ((y - 2000 + 3) / 4 - 1) := wrI (by omega) (by omega)
  have w7 : IntKind.i64.wrap (365 * (y - 2000) + (y - 2000 + 3) / 4) = 365 * (y - 2000) + (y - 2000 + 3) / 4 := wrI (by omega) (by omega)
  simp [F71, Fr.ofArgs, w1, w2, q, w3]
  repeat' (refine brn_split (fun h => ?_) (fun h => ?_) <;> (try simp at h) <;> (try simp [w1, q, w3, w4, w5, w6, w7]))
  all_goals
    simp_all [bgI]
    try omega
theorem agg72 {R : Type} {y : List PV → Option R} : bo (aggA [PV.d (I 0), PV.d (I 0), PV.d (I 0), PV.d (I 0), PV.d (I 0), PV.d (I 0), PV.d (I 0), PV.d (I 0), PV.d (I 0), PV.d (I 0), PV.d (I 0), PV.d (I 0), PV.d (I 0)] [(0, K0, .d (I 0)), (1, K0, .d (I 31)), (2, K0, .d (I 28)), (3, K0, .d (I 31)), (4, K0, .d (I 30)), (5, K0, .d (I 31)), (6, K0, .d (I 30)), (7, K0, .d (I 31)), (8, K0, .d (I 31)), (9, K0, .d (I 30)), (10, K0, .d (I 31)), (11, K0, .d (I 30)), (12, K0, .d (I 31))]) (.h y) = y [.d (I 0), .d (I 31), .d (I 28), .d (I 31), .d (I 30), .d (I 31), .d (I 30), .d (I 31), .d (I 31), .d (I 30), .d (I 31), .d (I 30), .d (I 31)] := rfl
theorem mkA72 : mkA [.d (I 0), .d (I 31), .d (I 28), .d (I 31), .d (I 30), .d (I 31), .d (I 30), .d (I 31), .d (I 31), .d (I 30), .d (I 31), .d (I 30), .d (I 31)] = .d (.a [I 0, I 31, I 28, I 31, I 30, I 31, I 30, I 31, I 31, I 30, I 31, I 30, I 31]) := rfl
theorem val72 (T : Tab) (hT : HV T) (y m : Int) (h1 : 1 ≤ m) (h2 : m ≤ 12) : T.val 72 [I y, I m] = some (.d (I (lnI y m)), false) := by
  rw [val_k T (hT 72 F72 rfl) rfl]
  have e := val66 T hT y
  have g : ([I 0, I 31, I 28, I 31, I 30, I 31, I 30, I 31, I 31, I 30, I 31, I 30, I 31] : List DV)[m.toNat]? = some (I (if m = 2 then 28 else lnI y m)) := by
    have : m = 1 ∨ m = 2 ∨ m = 3 ∨ m = 4 ∨ m = 5 ∨ m = 6 ∨ m = 7 ∨ m = 8 ∨ m = 9 ∨ m = 10 ∨ m = 11 ∨ m = 12 := by omega
    rcases this with rfl | rfl | rfl | rfl | rfl | rfl | rfl | rfl | rfl | rfl | rfl | rfl <;> rfl
  have h3 : 0 ≤ m := by omega
  have h4 : m < 13 := by omega
  have h5 : m.toNat < 13 := by omega
  simp [F72, Fr.ofArgs, b_agg, agg72, mkA72]
  repeat' (refine brn_split (fun h => ?_) (fun h => ?_) <;> (try simp at h) <;> (try simp [h, e, b_iaddrA, bo_asI, h3, h4, h5, size_n, DV.cells]))
  all_goals simp_all [lnI]
theorem ex_step {g : Nat → Int} {x : Int} : ∀ (N : Nat), g 0 ≤ x → x < g N → ∃ n, n < N ∧ g n ≤ x ∧ x < g (n + 1)
  | 0, h0, h1 => absurd h1 (by omega)
  | N + 1, h0, h1 => by
    by_cases h : x < g N
    · obtain ⟨n, a, b, c⟩ := ex_step N h0 h
      exact ⟨n, by omega, b, c⟩
    · exact ⟨N, by omega, by omega, h1⟩
theorem leap_iff {y : Int} (h1 : 2000 ≤ y) (h2 : y < 2200) : leap y = true ↔ (y % 4 = 0 ∧ y ≠ 2100) := by
  unfold leap
  rw [Int.tmod_eq_emod_of_nonneg (by omega), Int.tmod_eq_emod_of_nonneg (by omega), Int.tmod_eq_emod_of_nonneg (by omega)]
  simp only [Bool.and_eq_true, Bool.or_eq_true, beq_iff_eq, bne_iff_ne, ne_eq]
  omega
theorem bg_succ {y : Int} (h1 : 2000 ≤ y) (h2 : y < 2200) : bgI (y + 1) = bgI y + (if leap y = true then 366 else 365) := by
  have h := leap_iff h1 h2
  unfold bgI
  by_cases g : leap y = true
  · rw [if_pos g]; have := h.1 g; split <;> split <;> omega
  · rw [if_neg g]
    have : ¬ (y % 4 = 0 ∧ y ≠ 2100) := fun q => g (h.2 q)
    split <;> split <;> omega
theorem cm12 (y : Int) : cmI y 12 = if leap y = true then 366 else 365 := by
  simp only [cmI, lnI]
  cases leap y <;> simp
def Civ (d : Int) (n m : Nat) : Prop := n < 200 ∧ bgI (2000 + n) ≤ d ∧ d < bgI (2000 + n + 1) ∧ m < 12 ∧ cmI (2000 + n) m ≤ d - bgI (2000 + n) ∧ d - bgI (2000 + n) < cmI (2000 + n) (m + 1)
theorem civ_ex {d : Int} (h : vday d = true) : ∃ n m, Civ d n m := by
  simp only [vday, Bool.and_eq_true, decide_eq_true_eq] at h
  obtain ⟨n, h1, h2, h3⟩ := ex_step (g := fun n => bgI (2000 + n)) (x := d) 200 (by simp [bgI]; omega) (by simp [bgI]; omega)
  have h3' : d < bgI (2000 + n + 1) := by simpa [Int.add_assoc] using h3
  have h4 := bg_succ (y := 2000 + n) (by omega) (by omega)
  obtain ⟨m, h5, h6, h7⟩ := ex_step (g := cmI (2000 + n)) (x := d - bgI (2000 + n)) 12 (by simp only [cmI]; omega) (by rw [cm12]; omega)
  exact ⟨n, m, h1, h2, h3', h5, h6, h7⟩
theorem lnI_pos {y : Int} {m : Int} (h1 : 1 ≤ m) (h2 : m ≤ 12) : 28 ≤ lnI y m ∧ lnI y m ≤ 31 := by
  unfold lnI
  (repeat' split) <;> omega
theorem cm_le (y : Int) : ∀ {a b : Nat}, a ≤ b → b ≤ 12 → cmI y a ≤ cmI y b
  | a, 0, h, _ => by obtain rfl : a = 0 := by omega
                     exact Int.le_refl _
  | a, b + 1, h, hb => by
    by_cases e : a = b + 1
    · subst e; exact Int.le_refl _
    · have := cm_le y (a := a) (b := b) (by omega) (by omega)
      have := lnI_pos (y := y) (m := 1 + b) (by omega) (by omega)
      simp only [cmI]; omega
theorem bg_le {a b : Nat} (h : a ≤ b) : bgI (2000 + a) ≤ bgI (2000 + b) := by
  unfold bgI
  split <;> split <;> omega
end Go.Sim
end
section
namespace Go.Sim
set_option maxRecDepth 10000
set_option maxHeartbeats 4000000
theorem bg0 : bgI 2000 = 0 := by decide
theorem civ_pos {d : Int} {n m : Nat} (h : Civ d n m) : 0 ≤ d ∧ d ≤ 73048 := by
 obtain ⟨h1, h2, h3, -⟩ := h
 have := bg_le (a := 0) (b := n) (by omega)
 have b := bg_le (a := n + 1) (b := 200) (by omega)
 have e : bgI (2000 + (200 : Nat)) = 73049 := by decide
 have e0 : bgI (2000 + (0 : Nat)) = 0 := by decide
 rw [show (2000 : Int) + ((n + 1 : Nat) : Int) = 2000 + n + 1 by omega] at b
 omega
theorem lp65_0 (T : Tab) (hT : HV T) (d : Int) (n m : Nat) (h : Civ d n m) {k : KC (PV × Bool)} {fr : Fr} {H : Heap} (h0 : gc [0, 5] 0 ⟨fr, H⟩ = ⟨[(5, .d (I (2000 + d / 366))), (0, .d (I d))], []⟩) :
  kC T.env 0 fr H (.h (.loop [0, 5] L65_0, k)) = k (.exit 0) [(17, .d (.b false)), (5, .d (I (2000 + n))), (0, .d (I d))] [] := by
 obtain ⟨hp, hp2⟩ := civ_pos h
 obtain ⟨h1, h2, h3, -⟩ := h
 obtain ⟨q, hq⟩ : ∃ q : Nat, (q : Int) = d / 366 := ⟨(d / 366).toNat, by omega⟩
 have hqd : bgI (2000 + q) ≤ d := by unfold bgI; split <;> omega
 have hqn : q ≤ n := by
  by_cases g : q ≤ n
  ·exact g
  ·have := bg_le (a := n + 1) (b := q) (by omega)
   rw [show (2000 : Int) + ((n + 1 : Nat) : Int) = 2000 + n + 1 by omega] at this
   omega
 refine loop_iter (fun y : Int => ⟨[(5, .d (I y)), (0, .d (I d))], []⟩) (fun i => 2000 + ((q + i : Nat) : Int)) (n - q) ?_ ?_ (by rw [h0, ← hq]; simp)
 ·intro B _
  simp only [Nat.add_sub_cancel' hqn]
  have w : IntKind.i64.wrap (2000 + (n : Int) + 1) = 2000 + n + 1 := wrI (by omega) (by omega)
  have e := val71 T hT (2000 + n + 1) (by omega) (by omega)
  have g : ¬ bgI (2000 + n + 1) ≤ d := by omega
  simp [L65_0, w, e, g]
 ·intro B _ i hi c hc
  obtain ⟨z, hz⟩ : ∃ z : Int, 2000 + ((q + i : Nat) : Int) = z := ⟨_, rfl⟩
  have hz' : 2000 + ((q + (i + 1) : Nat) : Int) = z + 1 := by omega
  have b := bg_le (a := q + (i + 1)) (b := n) (by omega)
  simp only [hz'] at hc b
  simp only [hz]
  have w : IntKind.i64.wrap (z + 1) = z + 1 := wrI (by omega) (by omega)
  have e := val71 T hT (z + 1) (by omega) (by omega)
  have g : bgI (z + 1) ≤ d := by omega
  simp [L65_0, w, e, g]
  exact hc _ _ (by simp [gc, Fr.keep, reach, frRefs, heapRefs, PV.refs, gcH, PV.ren, Obj.ren, Heap.obj, Fr.ren, gh])
theorem lp65_1 (T : Tab) (hT : HV T) (d : Int) (n m : Nat) (h : Civ d n m) {k : KC (PV × Bool)} {fr : Fr} {H : Heap} (h0 : gc [0, 5, 6] 0 ⟨fr, H⟩ = ⟨[(6, .d (I 1)), (5, .d (I (2000 + n))), (0, .d (I (d - bgI (2000 + n))))], []⟩) :
  kC T.env 0 fr H (.h (.loop [0, 5, 6] L65_1, k)) = k (.exit 2) [(28, .d (.b false)), (6, .d (I (1 + m))), (5, .d (I (2000 + n))), (0, .d (I (d - bgI (2000 + n) - cmI (2000 + n) m)))] [] := by
 obtain ⟨hp, hp2⟩ := civ_pos h
 obtain ⟨h1, h2, h3, h4, h5, h6⟩ := h
 generalize hy : (2000 : Int) + n = y at *
 have hb := bg_le (a := 0) (b := n) (by omega)
 rw [hy, show (2000 : Int) + ((0 : Nat) : Int) = 2000 by simp, bg0] at hb
 refine loop_iter (fun s : Int × Int => ⟨[(6, .d (I s.1)), (5, .d (I y)), (0, .d (I s.2))], []⟩) (fun i => (1 + (i : Int), d - bgI y - cmI y i)) m ?_ ?_ (by rw [h0]; simp [cmI])
 ·intro B _
  have e := val72 T hT y (1 + m) (by omega) (by omega)
  have g : ¬ lnI y (1 + m) ≤ d - bgI y - cmI y m := by simp only [cmI] at h6; omega
  simp [L65_1, e, g]
 ·intro B _ i hi c hc
  have e := val72 T hT y (1 + i) (by omega) (by omega)
  have l := cm_le y (a := i + 1) (b := m) (by omega) (by omega)
  have l0 := cm_le y (a := 0) (b := i + 1) (by omega) (by omega)
  simp only [cmI] at l l0
  have g : lnI y (1 + i) ≤ d - bgI y - cmI y i := by omega
  have w : IntKind.i64.wrap (1 + (i : Int) + 1) = 1 + (i : Int) + 1 := wrI (by omega) (by omega)
  have w2 : IntKind.i64.wrap (d - bgI y - cmI y i - lnI y (1 + i)) = d - bgI y - cmI y (i + 1) := by
   have := lnI_pos (y := y) (m := 1 + i) (by omega) (by omega)
   rw [wrI (by omega) (by omega)]; simp only [cmI]; omega
  simp [L65_1, w, e, g, w2]
  exact hc _ _ (by simp [gc, Fr.keep, reach, frRefs, heapRefs, PV.refs, gcH, PV.ren, Obj.ren, Heap.obj, Fr.ren, gh]; omega)
theorem val65 (T : Tab) (hT : HV T) (d : Int) (n m : Nat) (h : Civ d n m) : T.val 65 [I d] = some (.t [.d (I (2000 + n)), .d (I (1 + m)), .d (I (d - bgI (2000 + n) - cmI (2000 + n) m + 1))], false) := by
 rw [val_k T (hT 65 F65 rfl) rfl]
 obtain ⟨hp, hp2⟩ := civ_pos h
 have hv : vday d = true := by simp [vday, hp, hp2]
 have e := val22 T hT d
 have q : d.tdiv 366 = d / 366 := Int.tdiv_eq_ediv_of_nonneg hp
 have w1 : IntKind.i64.wrap (d / 366) = d / 366 := wrI (by omega) (by omega)
 have w2 : IntKind.i64.wrap (2000 + d / 366) = 2000 + d / 366 := wrI (by omega) (by omega)
 rw [hv] at e
 have lp := fun k fr H => @lp65_0 T hT d n m h k fr H
 have lp2 := fun k fr H => @lp65_1 T hT d n m h k fr H
 have e2 := val71 T hT (2000 + n) (by omega) (by have := h.1; omega)
 have hb := bg_le (a := 0) (b := n) (by omega)
 rw [show (2000 : Int) + ((0 : Nat) : Int) = 2000 by simp, bg0] at hb
 have h2 := h.2.1
 have w3 : IntKind.i64.wrap (d - bgI (2000 + n)) = d - bgI (2000 + n) := wrI (by omega) (by omega)
 have l0 := cm_le (2000 + n) (a := 0) (b := m) (by omega) (by have := h.2.2.2.1; omega)
 have h5 := h.2.2.2.2.1
 simp only [cmI] at l0
 have w4 : IntKind.i64.wrap (d - bgI (2000 + n) - cmI (2000 + n) m + 1) = d - bgI (2000 + n) - cmI (2000 + n) m + 1 := wrI (by omega) (by omega)
 simp [F65, Fr.ofArgs, e, q, w1, w2]
 refine (lp _ _ _ (by simp [gc, Fr.keep, reach, frRefs, heapRefs, PV.refs, gcH, PV.ren, Obj.ren, Heap.obj, Fr.ren, gh])).trans ?_
 simp [e2, w3]
 refine (lp2 _ _ _ (by simp [gc, Fr.keep, reach, frRefs, heapRefs, PV.refs, gcH, PV.ren, Obj.ren, Heap.obj, Fr.ren, gh])).trans ?_
 simp [w4]
 try rfl
theorem lp1045_0 (T : Tab) (hT : HV T) (d : Int) (n m : Nat) (h : Civ d n m) {k : KC (PV × Bool)} {fr : Fr} {H : Heap} (h0 : gc [0, 5, 6] 0 ⟨fr, H⟩ = ⟨[(6, .d (I 1)), (5, .d (I 2000)), (0, .d (I d))], []⟩) :
  kC T.env 0 fr H (.h (.loop [0, 5, 6] L1045_0, k)) = k (.exit 0) [(13, .d (.b false)), (6, .d (I 1)), (5, .d (I (2000 + n))), (0, .d (I (d - bgI (2000 + n))))] [] := by
 obtain ⟨hp, hp2⟩ := civ_pos h
 obtain ⟨h1, h2, h3, -⟩ := h
 refine loop_iter (fun s : Int × Int => ⟨[(6, .d (I 1)), (5, .d (I s.1)), (0, .d (I s.2))], []⟩) (fun i => (2000 + (i : Int), d - bgI (2000 + (i : Int)))) n ?_ ?_ (by rw [h0]; simp [bg0])
 ·intro B _
  have e := val1050 T hT (2000 + n)
  have s := bg_succ (y := 2000 + n) (by omega) (by omega)
  have g : ¬ (if leap (2000 + (n : Int)) = true then (366 : Int) else 365) ≤ d - bgI (2000 + n) := by omega
  simp [L1045_0, e, g]
 ·intro B _ i hi c hc
  have e := val1050 T hT (2000 + i)
  have s := bg_succ (y := 2000 + i) (by omega) (by omega)
  have b := bg_le (a := i + 1) (b := n) (by omega)
  have b0 := bg_le (a := 0) (b := i) (by omega)
  have z : (2000 : Int) + ((i + 1 : Nat) : Int) = 2000 + i + 1 := by omega
  rw [show (2000 : Int) + ((0 : Nat) : Int) = 2000 by simp, bg0] at b0
  rw [z] at b
  simp only [z] at hc
  generalize hy : (2000 : Int) + i = y at *
  have g : (if leap y = true then (366 : Int) else 365) ≤ d - bgI y := by omega
  have w : IntKind.i64.wrap (y + 1) = y + 1 := wrI (by omega) (by omega)
  have w2 : IntKind.i64.wrap (d - bgI y - if leap y = true then (366 : Int) else 365) = d - bgI (y + 1) := by
   rw [wrI (by split <;> omega) (by split <;> omega)]; omega
  simp [L1045_0, w, e, g, w2]
  exact hc _ _ (by simp [gc, Fr.keep, reach, frRefs, heapRefs, PV.refs, gcH, PV.ren, Obj.ren, Heap.obj, Fr.ren, gh])
theorem lp1045_1 (T : Tab) (hT : HV T) (d : Int) (n m : Nat) (h : Civ d n m) {k : KC (PV × Bool)} {fr : Fr} {H : Heap} (h0 : gc [0, 5, 6] 0 ⟨fr, H⟩ = ⟨[(6, .d (I 1)), (5, .d (I (2000 + n))), (0, .d (I (d - bgI (2000 + n))))], []⟩) :
  kC T.env 0 fr H (.h (.loop [0, 5, 6] L1045_1, k)) = k (.exit 2) [(24, .d (.b false)), (6, .d (I (1 + m))), (5, .d (I (2000 + n))), (0, .d (I (d - bgI (2000 + n) - cmI (2000 + n) m)))] [] := by
 obtain ⟨hp, hp2⟩ := civ_pos h
 obtain ⟨h1, h2, h3, h4, h5, h6⟩ := h
 generalize hy : (2000 : Int) + n = y at *
 have hb := bg_le (a := 0) (b := n) (by omega)
 rw [hy, show (2000 : Int) + ((0 : Nat) : Int) = 2000 by simp, bg0] at hb
 refine loop_iter (fun s : Int × Int => ⟨[(6, .d (I s.1)), (5, .d (I y)), (0, .d (I s.2))], []⟩) (fun i => (1 + (i : Int), d - bgI y - cmI y i)) m ?_ ?_ (by rw [h0]; simp [cmI])
 ·intro B _
  have e := val1051 T hT y (1 + m)
  have g : ¬ lnI y (1 + m) ≤ d - bgI y - cmI y m := by simp only [cmI] at h6; omega
  simp [L1045_1, e, g]
 ·intro B _ i hi c hc
  have e := val1051 T hT y (1 + i)
  have l := cm_le y (a := i + 1) (b := m) (by omega) (by omega)
  have l0 := cm_le y (a := 0) (b := i + 1) (by omega) (by omega)
  simp only [cmI] at l l0
  have g : lnI y (1 + i) ≤ d - bgI y - cmI y i := by omega
  have w : IntKind.i64.wrap (1 + (i : Int) + 1) = 1 + (i : Int) + 1 := wrI (by omega) (by omega)
  have w2 : IntKind.i64.wrap (d - bgI y - cmI y i - lnI y (1 + i)) = d - bgI y - cmI y (i + 1) := by
   have := lnI_pos (y := y) (m := 1 + i) (by omega) (by omega)
   rw [wrI (by omega) (by omega)]; simp only [cmI]; omega
  simp [L1045_1, w, e, g, w2]
  exact hc _ _ (by simp [gc, Fr.keep, reach, frRefs, heapRefs, PV.refs, gcH, PV.ren, Obj.ren, Heap.obj, Fr.ren, gh]; omega)
theorem val1045 (T : Tab) (hT : HV T) (d : Int) (n m : Nat) (h : Civ d n m) : T.val 1045 [I d] = some (.t [.d (I (2000 + n)), .d (I (1 + m)), .d (I (d - bgI (2000 + n) - cmI (2000 + n) m + 1))], false) := by
 rw [val_k T (hT 1045 F1045 rfl) rfl]
 obtain ⟨hp, hp2⟩ := civ_pos h
 have hv : vday d = true := by simp [vday, hp, hp2]
 have e := val544 T hT d
 rw [hv] at e
 have lp := fun k fr H => @lp1045_0 T hT d n m h k fr H
 have lp2 := fun k fr H => @lp1045_1 T hT d n m h k fr H
 have hb := bg_le (a := 0) (b := n) (by omega)
 rw [show (2000 : Int) + ((0 : Nat) : Int) = 2000 by simp, bg0] at hb
 have h2 := h.2.1
 have l0 := cm_le (2000 + n) (a := 0) (b := m) (by omega) (by have := h.2.2.2.1; omega)
 have h5 := h.2.2.2.2.1
 simp only [cmI] at l0
 have w4 : IntKind.i64.wrap (d - bgI (2000 + n) - cmI (2000 + n) m + 1) = d - bgI (2000 + n) - cmI (2000 + n) m + 1 := wrI (by omega) (by omega)
 simp [F1045, Fr.ofArgs, e]
 refine (lp _ _ _ (by simp [gc, Fr.keep, reach, frRefs, heapRefs, PV.refs, gcH, PV.ren, Obj.ren, Heap.obj, Fr.ren, gh])).trans ?_
 simp
 refine (lp2 _ _ _ (by simp [gc, Fr.keep, reach, frRefs, heapRefs, PV.refs, gcH, PV.ren, Obj.ren, Heap.obj, Fr.ren, gh])).trans ?_
 simp [w4]
 try rfl
end Go.Sim
end
end
section
namespace Go.Sim
structure SL (α : Type) where
 l : List α
 t : Bool
structure ACurrency where
 Code : List UInt8
 Digits : Int
def ACurrency.cells (x : ACurrency) : List DV := [.s x.Code, I x.Digits]
def ACurrency.dv (x : ACurrency) : DV := .a [.s x.Code, I x.Digits]
@[simp] theorem ACurrency.fits (x : ACurrency) : Sim.fits (K1 2) (.d (ACurrency.dv x)) = true := rfl
@[simp] theorem ACurrency.purT (x : ACurrency) (H : Heap) : Sim.purT H (.d (ACurrency.dv x)) = some (.d (ACurrency.dv x), false) := rfl
@[simp] theorem ACurrency.clen (x : ACurrency) : (ACurrency.dv x).cells.length = 2 := rfl
@[simp] theorem ACurrency.aof (x : ACurrency) : DV.a (ACurrency.cells x) = ACurrency.dv x := rfl
@[simp] theorem ACurrency.ccl (x : ACurrency) : (ACurrency.cells x).length = 2 := rfl
@[simp] theorem ACurrency.c0 (x : ACurrency) : (ACurrency.dv x).cells[0]? = some (.s x.Code) := rfl
@[simp] theorem ACurrency.c1 (x : ACurrency) : (ACurrency.dv x).cells[1]? = some (I x.Digits) := rfl
structure ACalendar where
 Name : List UInt8
 Weekend : SL Int
 Holidays : SL Int
def ACalendar.cells (x : ACalendar) : List DV := [.s x.Name, .l K0 (x.Weekend.l.map I) x.Weekend.t, .l K0 (x.Holidays.l.map I) x.Holidays.t]
def ACalendar.dv (x : ACalendar) : DV := .a [.s x.Name, .l K0 (x.Weekend.l.map I) x.Weekend.t, .l K0 (x.Holidays.l.map I) x.Holidays.t]
@[simp] theorem ACalendar.fits (x : ACalendar) : Sim.fits (K1 3) (.d (ACalendar.dv x)) = true := rfl
@[simp] theorem ACalendar.purT (x : ACalendar) (H : Heap) : Sim.purT H (.d (ACalendar.dv x)) = some (.d (ACalendar.dv x), false) := rfl
@[simp] theorem ACalendar.clen (x : ACalendar) : (ACalendar.dv x).cells.length = 3 := rfl
@[simp] theorem ACalendar.aof (x : ACalendar) : DV.a (ACalendar.cells x) = ACalendar.dv x := rfl
@[simp] theorem ACalendar.ccl (x : ACalendar) : (ACalendar.cells x).length = 3 := rfl
@[simp] theorem ACalendar.c0 (x : ACalendar) : (ACalendar.dv x).cells[0]? = some (.s x.Name) := rfl
@[simp] theorem ACalendar.c1 (x : ACalendar) : (ACalendar.dv x).cells[1]? = some (.l K0 (x.Weekend.l.map I) x.Weekend.t) := rfl
@[simp] theorem ACalendar.c2 (x : ACalendar) : (ACalendar.dv x).cells[2]? = some (.l K0 (x.Holidays.l.map I) x.Holidays.t) := rfl
structure ATier where
 From : Int
 Ppm : Int
def ATier.cells (x : ATier) : List DV := [I x.From, I x.Ppm]
def ATier.dv (x : ATier) : DV := .a [I x.From, I x.Ppm]
@[simp] theorem ATier.fits (x : ATier) : Sim.fits (K1 2) (.d (ATier.dv x)) = true := rfl
@[simp] theorem ATier.purT (x : ATier) (H : Heap) : Sim.purT H (.d (ATier.dv x)) = some (.d (ATier.dv x), false) := rfl
@[simp] theorem ATier.clen (x : ATier) : (ATier.dv x).cells.length = 2 := rfl
@[simp] theorem ATier.aof (x : ATier) : DV.a (ATier.cells x) = ATier.dv x := rfl
@[simp] theorem ATier.ccl (x : ATier) : (ATier.cells x).length = 2 := rfl
@[simp] theorem ATier.c0 (x : ATier) : (ATier.dv x).cells[0]? = some (I x.From) := rfl
@[simp] theorem ATier.c1 (x : ATier) : (ATier.dv x).cells[1]? = some (I x.Ppm) := rfl
structure AInterest where
 Tiers : SL ATier
 Marginal : Bool
 Basis : Int
 Mode : Int
 Keep : Bool
def AInterest.cells (x : AInterest) : List DV := [.l (K1 2) (x.Tiers.l.map ATier.dv) x.Tiers.t, .b x.Marginal, I x.Basis, I x.Mode, .b x.Keep]
def AInterest.dv (x : AInterest) : DV := .a [.l (K1 2) (x.Tiers.l.map ATier.dv) x.Tiers.t, .b x.Marginal, I x.Basis, I x.Mode, .b x.Keep]
@[simp] theorem AInterest.fits (x : AInterest) : Sim.fits (K1 5) (.d (AInterest.dv x)) = true := rfl
@[simp] theorem AInterest.purT (x : AInterest) (H : Heap) : Sim.purT H (.d (AInterest.dv x)) = some (.d (AInterest.dv x), false) := rfl
@[simp] theorem AInterest.clen (x : AInterest) : (AInterest.dv x).cells.length = 5 := rfl
@[simp] theorem AInterest.aof (x : AInterest) : DV.a (AInterest.cells x) = AInterest.dv x := rfl
@[simp] theorem AInterest.ccl (x : AInterest) : (AInterest.cells x).length = 5 := rfl
@[simp] theorem AInterest.c0 (x : AInterest) : (AInterest.dv x).cells[0]? = some (.l (K1 2) (x.Tiers.l.map ATier.dv) x.Tiers.t) := rfl
@[simp] theorem AInterest.c1 (x : AInterest) : (AInterest.dv x).cells[1]? = some (.b x.Marginal) := rfl
@[simp] theorem AInterest.c2 (x : AInterest) : (AInterest.dv x).cells[2]? = some (I x.Basis) := rfl
@[simp] theorem AInterest.c3 (x : AInterest) : (AInterest.dv x).cells[3]? = some (I x.Mode) := rfl
@[simp] theorem AInterest.c4 (x : AInterest) : (AInterest.dv x).cells[4]? = some (.b x.Keep) := rfl
structure AExpr where
 (Op N : Int)
 S : List UInt8
 Args : SL DV
def AExpr.cells (x : AExpr) : List DV := [I x.Op, I x.N, .s x.S, .l (K1 4) x.Args.l x.Args.t]
def AExpr.dv (x : AExpr) : DV := .a [I x.Op, I x.N, .s x.S, .l (K1 4) x.Args.l x.Args.t]
@[simp] theorem AExpr.fits (x : AExpr) : Sim.fits (K1 4) (.d (AExpr.dv x)) = true := rfl
@[simp] theorem AExpr.purT (x : AExpr) (H : Heap) : Sim.purT H (.d (AExpr.dv x)) = some (.d (AExpr.dv x), false) := rfl
@[simp] theorem AExpr.clen (x : AExpr) : (AExpr.dv x).cells.length = 4 := rfl
@[simp] theorem AExpr.aof (x : AExpr) : DV.a (AExpr.cells x) = AExpr.dv x := rfl
@[simp] theorem AExpr.ccl (x : AExpr) : (AExpr.cells x).length = 4 := rfl
@[simp] theorem AExpr.c0 (x : AExpr) : (AExpr.dv x).cells[0]? = some (I x.Op) := rfl
@[simp] theorem AExpr.c1 (x : AExpr) : (AExpr.dv x).cells[1]? = some (I x.N) := rfl
@[simp] theorem AExpr.c2 (x : AExpr) : (AExpr.dv x).cells[2]? = some (.s x.S) := rfl
@[simp] theorem AExpr.c3 (x : AExpr) : (AExpr.dv x).cells[3]? = some (.l (K1 4) x.Args.l x.Args.t) := rfl
structure AFee where
 Name : List UInt8
 Event : Int
 When : AExpr
 Amount : AExpr
def AFee.cells (x : AFee) : List DV := [.s x.Name, I x.Event, I x.When.Op, I x.When.N, .s x.When.S, .l (K1 4) x.When.Args.l x.When.Args.t, I x.Amount.Op, I x.Amount.N, .s x.Amount.S, .l (K1 4) x.Amount.Args.l x.Amount.Args.t]
def AFee.dv (x : AFee) : DV := .a [.s x.Name, I x.Event, I x.When.Op, I x.When.N, .s x.When.S, .l (K1 4) x.When.Args.l x.When.Args.t, I x.Amount.Op, I x.Amount.N, .s x.Amount.S, .l (K1 4) x.Amount.Args.l x.Amount.Args.t]
@[simp] theorem AFee.fits (x : AFee) : Sim.fits (K1 10) (.d (AFee.dv x)) = true := rfl
@[simp] theorem AFee.purT (x : AFee) (H : Heap) : Sim.purT H (.d (AFee.dv x)) = some (.d (AFee.dv x), false) := rfl
@[simp] theorem AFee.clen (x : AFee) : (AFee.dv x).cells.length = 10 := rfl
@[simp] theorem AFee.aof (x : AFee) : DV.a (AFee.cells x) = AFee.dv x := rfl
@[simp] theorem AFee.ccl (x : AFee) : (AFee.cells x).length = 10 := rfl
@[simp] theorem AFee.n2_4 (x : AFee) : ((AFee.dv x).cells.drop 2).take 4 = AExpr.cells x.When := rfl
@[simp] theorem AFee.n6_4 (x : AFee) : ((AFee.dv x).cells.drop 6).take 4 = AExpr.cells x.Amount := rfl
@[simp] theorem AFee.c0 (x : AFee) : (AFee.dv x).cells[0]? = some (.s x.Name) := rfl
@[simp] theorem AFee.c1 (x : AFee) : (AFee.dv x).cells[1]? = some (I x.Event) := rfl
@[simp] theorem AFee.c2 (x : AFee) : (AFee.dv x).cells[2]? = some (I x.When.Op) := rfl
@[simp] theorem AFee.c3 (x : AFee) : (AFee.dv x).cells[3]? = some (I x.When.N) := rfl
@[simp] theorem AFee.c4 (x : AFee) : (AFee.dv x).cells[4]? = some (.s x.When.S) := rfl
@[simp] theorem AFee.c5 (x : AFee) : (AFee.dv x).cells[5]? = some (.l (K1 4) x.When.Args.l x.When.Args.t) := rfl
@[simp] theorem AFee.c6 (x : AFee) : (AFee.dv x).cells[6]? = some (I x.Amount.Op) := rfl
@[simp] theorem AFee.c7 (x : AFee) : (AFee.dv x).cells[7]? = some (I x.Amount.N) := rfl
@[simp] theorem AFee.c8 (x : AFee) : (AFee.dv x).cells[8]? = some (.s x.Amount.S) := rfl
@[simp] theorem AFee.c9 (x : AFee) : (AFee.dv x).cells[9]? = some (.l (K1 4) x.Amount.Args.l x.Amount.Args.t) := rfl
structure ARule where
 Name : List UInt8
 Window : Int
 Amount : AExpr
def ARule.cells (x : ARule) : List DV := [.s x.Name, I x.Window, I x.Amount.Op, I x.Amount.N, .s x.Amount.S, .l (K1 4) x.Amount.Args.l x.Amount.Args.t]
def ARule.dv (x : ARule) : DV := .a [.s x.Name, I x.Window, I x.Amount.Op, I x.Amount.N, .s x.Amount.S, .l (K1 4) x.Amount.Args.l x.Amount.Args.t]
@[simp] theorem ARule.fits (x : ARule) : Sim.fits (K1 6) (.d (ARule.dv x)) = true := rfl
@[simp] theorem ARule.purT (x : ARule) (H : Heap) : Sim.purT H (.d (ARule.dv x)) = some (.d (ARule.dv x), false) := rfl
@[simp] theorem ARule.clen (x : ARule) : (ARule.dv x).cells.length = 6 := rfl
@[simp] theorem ARule.aof (x : ARule) : DV.a (ARule.cells x) = ARule.dv x := rfl
@[simp] theorem ARule.ccl (x : ARule) : (ARule.cells x).length = 6 := rfl
@[simp] theorem ARule.n2_4 (x : ARule) : ((ARule.dv x).cells.drop 2).take 4 = AExpr.cells x.Amount := rfl
@[simp] theorem ARule.c0 (x : ARule) : (ARule.dv x).cells[0]? = some (.s x.Name) := rfl
@[simp] theorem ARule.c1 (x : ARule) : (ARule.dv x).cells[1]? = some (I x.Window) := rfl
@[simp] theorem ARule.c2 (x : ARule) : (ARule.dv x).cells[2]? = some (I x.Amount.Op) := rfl
@[simp] theorem ARule.c3 (x : ARule) : (ARule.dv x).cells[3]? = some (I x.Amount.N) := rfl
@[simp] theorem ARule.c4 (x : ARule) : (ARule.dv x).cells[4]? = some (.s x.Amount.S) := rfl
@[simp] theorem ARule.c5 (x : ARule) : (ARule.dv x).cells[5]? = some (.l (K1 4) x.Amount.Args.l x.Amount.Args.t) := rfl
structure AProduct where
 Name : List UInt8
 Currency : List UInt8
 Calendar : List UInt8
 From : Int
 Every : Int
 Overdraft : Int
 TaxPpm : Int
 Credit : AInterest
 Debit : AInterest
 Fees : SL AFee
 Rules : SL ARule
def AProduct.cells (x : AProduct) : List DV := [.s x.Name, .s x.Currency, .s x.Calendar, I x.From, I x.Every, I x.Overdraft, I x.TaxPpm, .l (K1 2) (x.Credit.Tiers.l.map ATier.dv) x.Credit.Tiers.t, .b x.Credit.Marginal, I x.Credit.Basis, I x.Credit.Mode, .b x.Credit.Keep, .l (K1 2) (x.Debit.Tiers.l.map ATier.dv) x.Debit.Tiers.t, .b x.Debit.Marginal, I x.Debit.Basis, I x.Debit.Mode, .b x.Debit.Keep, .l (K1 10) (x.Fees.l.map AFee.dv) x.Fees.t, .l (K1 6) (x.Rules.l.map ARule.dv) x.Rules.t]
def AProduct.dv (x : AProduct) : DV := .a [.s x.Name, .s x.Currency, .s x.Calendar, I x.From, I x.Every, I x.Overdraft, I x.TaxPpm, .l (K1 2) (x.Credit.Tiers.l.map ATier.dv) x.Credit.Tiers.t, .b x.Credit.Marginal, I x.Credit.Basis, I x.Credit.Mode, .b x.Credit.Keep, .l (K1 2) (x.Debit.Tiers.l.map ATier.dv) x.Debit.Tiers.t, .b x.Debit.Marginal, I x.Debit.Basis, I x.Debit.Mode, .b x.Debit.Keep, .l (K1 10) (x.Fees.l.map AFee.dv) x.Fees.t, .l (K1 6) (x.Rules.l.map ARule.dv) x.Rules.t]
@[simp] theorem AProduct.fits (x : AProduct) : Sim.fits (K1 19) (.d (AProduct.dv x)) = true := rfl
@[simp] theorem AProduct.purT (x : AProduct) (H : Heap) : Sim.purT H (.d (AProduct.dv x)) = some (.d (AProduct.dv x), false) := rfl
@[simp] theorem AProduct.clen (x : AProduct) : (AProduct.dv x).cells.length = 19 := rfl
@[simp] theorem AProduct.aof (x : AProduct) : DV.a (AProduct.cells x) = AProduct.dv x := rfl
@[simp] theorem AProduct.ccl (x : AProduct) : (AProduct.cells x).length = 19 := rfl
@[simp] theorem AProduct.n7_5 (x : AProduct) : ((AProduct.dv x).cells.drop 7).take 5 = AInterest.cells x.Credit := rfl
@[simp] theorem AProduct.n12_5 (x : AProduct) : ((AProduct.dv x).cells.drop 12).take 5 = AInterest.cells x.Debit := rfl
@[simp] theorem AProduct.c0 (x : AProduct) : (AProduct.dv x).cells[0]? = some (.s x.Name) := rfl
@[simp] theorem AProduct.c1 (x : AProduct) : (AProduct.dv x).cells[1]? = some (.s x.Currency) := rfl
@[simp] theorem AProduct.c2 (x : AProduct) : (AProduct.dv x).cells[2]? = some (.s x.Calendar) := rfl
@[simp] theorem AProduct.c3 (x : AProduct) : (AProduct.dv x).cells[3]? = some (I x.From) := rfl
@[simp] theorem AProduct.c4 (x : AProduct) : (AProduct.dv x).cells[4]? = some (I x.Every) := rfl
@[simp] theorem AProduct.c5 (x : AProduct) : (AProduct.dv x).cells[5]? = some (I x.Overdraft) := rfl
@[simp] theorem AProduct.c6 (x : AProduct) : (AProduct.dv x).cells[6]? = some (I x.TaxPpm) := rfl
@[simp] theorem AProduct.c7 (x : AProduct) : (AProduct.dv x).cells[7]? = some (.l (K1 2) (x.Credit.Tiers.l.map ATier.dv) x.Credit.Tiers.t) := rfl
@[simp] theorem AProduct.c8 (x : AProduct) : (AProduct.dv x).cells[8]? = some (.b x.Credit.Marginal) := rfl
@[simp] theorem AProduct.c9 (x : AProduct) : (AProduct.dv x).cells[9]? = some (I x.Credit.Basis) := rfl
@[simp] theorem AProduct.c10 (x : AProduct) : (AProduct.dv x).cells[10]? = some (I x.Credit.Mode) := rfl
@[simp] theorem AProduct.c11 (x : AProduct) : (AProduct.dv x).cells[11]? = some (.b x.Credit.Keep) := rfl
@[simp] theorem AProduct.c12 (x : AProduct) : (AProduct.dv x).cells[12]? = some (.l (K1 2) (x.Debit.Tiers.l.map ATier.dv) x.Debit.Tiers.t) := rfl
@[simp] theorem AProduct.c13 (x : AProduct) : (AProduct.dv x).cells[13]? = some (.b x.Debit.Marginal) := rfl
@[simp] theorem AProduct.c14 (x : AProduct) : (AProduct.dv x).cells[14]? = some (I x.Debit.Basis) := rfl
@[simp] theorem AProduct.c15 (x : AProduct) : (AProduct.dv x).cells[15]? = some (I x.Debit.Mode) := rfl
@[simp] theorem AProduct.c16 (x : AProduct) : (AProduct.dv x).cells[16]? = some (.b x.Debit.Keep) := rfl
@[simp] theorem AProduct.c17 (x : AProduct) : (AProduct.dv x).cells[17]? = some (.l (K1 10) (x.Fees.l.map AFee.dv) x.Fees.t) := rfl
@[simp] theorem AProduct.c18 (x : AProduct) : (AProduct.dv x).cells[18]? = some (.l (K1 6) (x.Rules.l.map ARule.dv) x.Rules.t) := rfl
structure AGl where
 Id : Int
 Parent : Int
 Kind : Int
 Name : List UInt8
def AGl.cells (x : AGl) : List DV := [I x.Id, I x.Parent, I x.Kind, .s x.Name]
def AGl.dv (x : AGl) : DV := .a [I x.Id, I x.Parent, I x.Kind, .s x.Name]
@[simp] theorem AGl.fits (x : AGl) : Sim.fits (K1 4) (.d (AGl.dv x)) = true := rfl
@[simp] theorem AGl.purT (x : AGl) (H : Heap) : Sim.purT H (.d (AGl.dv x)) = some (.d (AGl.dv x), false) := rfl
@[simp] theorem AGl.clen (x : AGl) : (AGl.dv x).cells.length = 4 := rfl
@[simp] theorem AGl.aof (x : AGl) : DV.a (AGl.cells x) = AGl.dv x := rfl
@[simp] theorem AGl.ccl (x : AGl) : (AGl.cells x).length = 4 := rfl
@[simp] theorem AGl.c0 (x : AGl) : (AGl.dv x).cells[0]? = some (I x.Id) := rfl
@[simp] theorem AGl.c1 (x : AGl) : (AGl.dv x).cells[1]? = some (I x.Parent) := rfl
@[simp] theorem AGl.c2 (x : AGl) : (AGl.dv x).cells[2]? = some (I x.Kind) := rfl
@[simp] theorem AGl.c3 (x : AGl) : (AGl.dv x).cells[3]? = some (.s x.Name) := rfl
structure ALeg where
 Account : Int
 Amount : Int
 Currency : List UInt8
def ALeg.cells (x : ALeg) : List DV := [I x.Account, I x.Amount, .s x.Currency]
def ALeg.dv (x : ALeg) : DV := .a [I x.Account, I x.Amount, .s x.Currency]
@[simp] theorem ALeg.fits (x : ALeg) : Sim.fits (K1 3) (.d (ALeg.dv x)) = true := rfl
@[simp] theorem ALeg.purT (x : ALeg) (H : Heap) : Sim.purT H (.d (ALeg.dv x)) = some (.d (ALeg.dv x), false) := rfl
@[simp] theorem ALeg.clen (x : ALeg) : (ALeg.dv x).cells.length = 3 := rfl
@[simp] theorem ALeg.aof (x : ALeg) : DV.a (ALeg.cells x) = ALeg.dv x := rfl
@[simp] theorem ALeg.ccl (x : ALeg) : (ALeg.cells x).length = 3 := rfl
@[simp] theorem ALeg.c0 (x : ALeg) : (ALeg.dv x).cells[0]? = some (I x.Account) := rfl
@[simp] theorem ALeg.c1 (x : ALeg) : (ALeg.dv x).cells[1]? = some (I x.Amount) := rfl
@[simp] theorem ALeg.c2 (x : ALeg) : (ALeg.dv x).cells[2]? = some (.s x.Currency) := rfl
structure AEntry where
 Id : Int
 Booked : Int
 Value : Int
 Kind : Int
 Auth : Int
 Period : Int
 Key : List UInt8
 Text : List UInt8
 Legs : SL ALeg
 Chain : Int
def AEntry.cells (x : AEntry) : List DV := [I x.Id, I x.Booked, I x.Value, I x.Kind, I x.Auth, I x.Period, .s x.Key, .s x.Text, .l (K1 3) (x.Legs.l.map ALeg.dv) x.Legs.t, .i .u64 x.Chain]
def AEntry.dv (x : AEntry) : DV := .a [I x.Id, I x.Booked, I x.Value, I x.Kind, I x.Auth, I x.Period, .s x.Key, .s x.Text, .l (K1 3) (x.Legs.l.map ALeg.dv) x.Legs.t, .i .u64 x.Chain]
@[simp] theorem AEntry.fits (x : AEntry) : Sim.fits (K1 10) (.d (AEntry.dv x)) = true := rfl
@[simp] theorem AEntry.purT (x : AEntry) (H : Heap) : Sim.purT H (.d (AEntry.dv x)) = some (.d (AEntry.dv x), false) := rfl
@[simp] theorem AEntry.clen (x : AEntry) : (AEntry.dv x).cells.length = 10 := rfl
@[simp] theorem AEntry.aof (x : AEntry) : DV.a (AEntry.cells x) = AEntry.dv x := rfl
@[simp] theorem AEntry.ccl (x : AEntry) : (AEntry.cells x).length = 10 := rfl
@[simp] theorem AEntry.c0 (x : AEntry) : (AEntry.dv x).cells[0]? = some (I x.Id) := rfl
@[simp] theorem AEntry.c1 (x : AEntry) : (AEntry.dv x).cells[1]? = some (I x.Booked) := rfl
@[simp] theorem AEntry.c2 (x : AEntry) : (AEntry.dv x).cells[2]? = some (I x.Value) := rfl
@[simp] theorem AEntry.c3 (x : AEntry) : (AEntry.dv x).cells[3]? = some (I x.Kind) := rfl
@[simp] theorem AEntry.c4 (x : AEntry) : (AEntry.dv x).cells[4]? = some (I x.Auth) := rfl
@[simp] theorem AEntry.c5 (x : AEntry) : (AEntry.dv x).cells[5]? = some (I x.Period) := rfl
@[simp] theorem AEntry.c6 (x : AEntry) : (AEntry.dv x).cells[6]? = some (.s x.Key) := rfl
@[simp] theorem AEntry.c7 (x : AEntry) : (AEntry.dv x).cells[7]? = some (.s x.Text) := rfl
@[simp] theorem AEntry.c8 (x : AEntry) : (AEntry.dv x).cells[8]? = some (.l (K1 3) (x.Legs.l.map ALeg.dv) x.Legs.t) := rfl
@[simp] theorem AEntry.c9 (x : AEntry) : (AEntry.dv x).cells[9]? = some (.i .u64 x.Chain) := rfl
structure AHold where
 Id : Int
 Account : Int
 Amount : Int
 From : Int
 To : Int
 Key : List UInt8
def AHold.cells (x : AHold) : List DV := [I x.Id, I x.Account, I x.Amount, I x.From, I x.To, .s x.Key]
def AHold.dv (x : AHold) : DV := .a [I x.Id, I x.Account, I x.Amount, I x.From, I x.To, .s x.Key]
@[simp] theorem AHold.fits (x : AHold) : Sim.fits (K1 6) (.d (AHold.dv x)) = true := rfl
@[simp] theorem AHold.purT (x : AHold) (H : Heap) : Sim.purT H (.d (AHold.dv x)) = some (.d (AHold.dv x), false) := rfl
@[simp] theorem AHold.clen (x : AHold) : (AHold.dv x).cells.length = 6 := rfl
@[simp] theorem AHold.aof (x : AHold) : DV.a (AHold.cells x) = AHold.dv x := rfl
@[simp] theorem AHold.ccl (x : AHold) : (AHold.cells x).length = 6 := rfl
@[simp] theorem AHold.c0 (x : AHold) : (AHold.dv x).cells[0]? = some (I x.Id) := rfl
@[simp] theorem AHold.c1 (x : AHold) : (AHold.dv x).cells[1]? = some (I x.Account) := rfl
@[simp] theorem AHold.c2 (x : AHold) : (AHold.dv x).cells[2]? = some (I x.Amount) := rfl
@[simp] theorem AHold.c3 (x : AHold) : (AHold.dv x).cells[3]? = some (I x.From) := rfl
@[simp] theorem AHold.c4 (x : AHold) : (AHold.dv x).cells[4]? = some (I x.To) := rfl
@[simp] theorem AHold.c5 (x : AHold) : (AHold.dv x).cells[5]? = some (.s x.Key) := rfl
structure ABlock where
 Id : Int
 Account : Int
 Kind : Int
 Amount : Int
 From : Int
 To : Int
 Source : List UInt8
def ABlock.cells (x : ABlock) : List DV := [I x.Id, I x.Account, I x.Kind, I x.Amount, I x.From, I x.To, .s x.Source]
def ABlock.dv (x : ABlock) : DV := .a [I x.Id, I x.Account, I x.Kind, I x.Amount, I x.From, I x.To, .s x.Source]
@[simp] theorem ABlock.fits (x : ABlock) : Sim.fits (K1 7) (.d (ABlock.dv x)) = true := rfl
@[simp] theorem ABlock.purT (x : ABlock) (H : Heap) : Sim.purT H (.d (ABlock.dv x)) = some (.d (ABlock.dv x), false) := rfl
@[simp] theorem ABlock.clen (x : ABlock) : (ABlock.dv x).cells.length = 7 := rfl
@[simp] theorem ABlock.aof (x : ABlock) : DV.a (ABlock.cells x) = ABlock.dv x := rfl
@[simp] theorem ABlock.ccl (x : ABlock) : (ABlock.cells x).length = 7 := rfl
@[simp] theorem ABlock.c0 (x : ABlock) : (ABlock.dv x).cells[0]? = some (I x.Id) := rfl
@[simp] theorem ABlock.c1 (x : ABlock) : (ABlock.dv x).cells[1]? = some (I x.Account) := rfl
@[simp] theorem ABlock.c2 (x : ABlock) : (ABlock.dv x).cells[2]? = some (I x.Kind) := rfl
@[simp] theorem ABlock.c3 (x : ABlock) : (ABlock.dv x).cells[3]? = some (I x.Amount) := rfl
@[simp] theorem ABlock.c4 (x : ABlock) : (ABlock.dv x).cells[4]? = some (I x.From) := rfl
@[simp] theorem ABlock.c5 (x : ABlock) : (ABlock.dv x).cells[5]? = some (I x.To) := rfl
@[simp] theorem ABlock.c6 (x : ABlock) : (ABlock.dv x).cells[6]? = some (.s x.Source) := rfl
structure AAccount where
 Id : Int
 Opened : Int
 Closed : Int
 Extra : Int
 Owner : List UInt8
 Product : List UInt8
 Number : List UInt8
def AAccount.cells (x : AAccount) : List DV := [I x.Id, I x.Opened, I x.Closed, I x.Extra, .s x.Owner, .s x.Product, .s x.Number]
def AAccount.dv (x : AAccount) : DV := .a [I x.Id, I x.Opened, I x.Closed, I x.Extra, .s x.Owner, .s x.Product, .s x.Number]
@[simp] theorem AAccount.fits (x : AAccount) : Sim.fits (K1 7) (.d (AAccount.dv x)) = true := rfl
@[simp] theorem AAccount.purT (x : AAccount) (H : Heap) : Sim.purT H (.d (AAccount.dv x)) = some (.d (AAccount.dv x), false) := rfl
@[simp] theorem AAccount.clen (x : AAccount) : (AAccount.dv x).cells.length = 7 := rfl
@[simp] theorem AAccount.aof (x : AAccount) : DV.a (AAccount.cells x) = AAccount.dv x := rfl
@[simp] theorem AAccount.ccl (x : AAccount) : (AAccount.cells x).length = 7 := rfl
@[simp] theorem AAccount.c0 (x : AAccount) : (AAccount.dv x).cells[0]? = some (I x.Id) := rfl
@[simp] theorem AAccount.c1 (x : AAccount) : (AAccount.dv x).cells[1]? = some (I x.Opened) := rfl
@[simp] theorem AAccount.c2 (x : AAccount) : (AAccount.dv x).cells[2]? = some (I x.Closed) := rfl
@[simp] theorem AAccount.c3 (x : AAccount) : (AAccount.dv x).cells[3]? = some (I x.Extra) := rfl
@[simp] theorem AAccount.c4 (x : AAccount) : (AAccount.dv x).cells[4]? = some (.s x.Owner) := rfl
@[simp] theorem AAccount.c5 (x : AAccount) : (AAccount.dv x).cells[5]? = some (.s x.Product) := rfl
@[simp] theorem AAccount.c6 (x : AAccount) : (AAccount.dv x).cells[6]? = some (.s x.Number) := rfl
structure APlan where
 Cash : Int
 Deposits : Int
 InterestPaid : Int
 InterestEarned : Int
 FeeEarned : Int
 Tax : Int
 Clearing : Int
 Loans : Int
 LoanInterest : Int
 Penalty : Int
 Provision : Int
 ProvisionCost : Int
 Loss : Int
 Recovery : Int
def APlan.cells (x : APlan) : List DV := [I x.Cash, I x.Deposits, I x.InterestPaid, I x.InterestEarned, I x.FeeEarned, I x.Tax, I x.Clearing, I x.Loans, I x.LoanInterest, I x.Penalty, I x.Provision, I x.ProvisionCost, I x.Loss, I x.Recovery]
def APlan.dv (x : APlan) : DV := .a [I x.Cash, I x.Deposits, I x.InterestPaid, I x.InterestEarned, I x.FeeEarned, I x.Tax, I x.Clearing, I x.Loans, I x.LoanInterest, I x.Penalty, I x.Provision, I x.ProvisionCost, I x.Loss, I x.Recovery]
@[simp] theorem APlan.fits (x : APlan) : Sim.fits (K1 14) (.d (APlan.dv x)) = true := rfl
@[simp] theorem APlan.purT (x : APlan) (H : Heap) : Sim.purT H (.d (APlan.dv x)) = some (.d (APlan.dv x), false) := rfl
@[simp] theorem APlan.clen (x : APlan) : (APlan.dv x).cells.length = 14 := rfl
@[simp] theorem APlan.aof (x : APlan) : DV.a (APlan.cells x) = APlan.dv x := rfl
@[simp] theorem APlan.ccl (x : APlan) : (APlan.cells x).length = 14 := rfl
@[simp] theorem APlan.c0 (x : APlan) : (APlan.dv x).cells[0]? = some (I x.Cash) := rfl
@[simp] theorem APlan.c1 (x : APlan) : (APlan.dv x).cells[1]? = some (I x.Deposits) := rfl
@[simp] theorem APlan.c2 (x : APlan) : (APlan.dv x).cells[2]? = some (I x.InterestPaid) := rfl
@[simp] theorem APlan.c3 (x : APlan) : (APlan.dv x).cells[3]? = some (I x.InterestEarned) := rfl
@[simp] theorem APlan.c4 (x : APlan) : (APlan.dv x).cells[4]? = some (I x.FeeEarned) := rfl
@[simp] theorem APlan.c5 (x : APlan) : (APlan.dv x).cells[5]? = some (I x.Tax) := rfl
@[simp] theorem APlan.c6 (x : APlan) : (APlan.dv x).cells[6]? = some (I x.Clearing) := rfl
@[simp] theorem APlan.c7 (x : APlan) : (APlan.dv x).cells[7]? = some (I x.Loans) := rfl
@[simp] theorem APlan.c8 (x : APlan) : (APlan.dv x).cells[8]? = some (I x.LoanInterest) := rfl
@[simp] theorem APlan.c9 (x : APlan) : (APlan.dv x).cells[9]? = some (I x.Penalty) := rfl
@[simp] theorem APlan.c10 (x : APlan) : (APlan.dv x).cells[10]? = some (I x.Provision) := rfl
@[simp] theorem APlan.c11 (x : APlan) : (APlan.dv x).cells[11]? = some (I x.ProvisionCost) := rfl
@[simp] theorem APlan.c12 (x : APlan) : (APlan.dv x).cells[12]? = some (I x.Loss) := rfl
@[simp] theorem APlan.c13 (x : APlan) : (APlan.dv x).cells[13]? = some (I x.Recovery) := rfl
structure ABooks where
 Currencies : SL ACurrency
 Calendars : SL ACalendar
 Chart : SL AGl
 Plan : APlan
 Products : SL AProduct
 Accounts : SL AAccount
 Journal : SL AEntry
 Holds : SL AHold
 Blocks : SL ABlock
def ABooks.cells (x : ABooks) : List DV := [.l (K1 2) (x.Currencies.l.map ACurrency.dv) x.Currencies.t, .l (K1 3) (x.Calendars.l.map ACalendar.dv) x.Calendars.t, .l (K1 4) (x.Chart.l.map AGl.dv) x.Chart.t, I x.Plan.Cash, I x.Plan.Deposits, I x.Plan.InterestPaid, I x.Plan.InterestEarned, I x.Plan.FeeEarned, I x.Plan.Tax, I x.Plan.Clearing, I x.Plan.Loans, I x.Plan.LoanInterest, I x.Plan.Penalty, I x.Plan.Provision, I x.Plan.ProvisionCost, I x.Plan.Loss, I x.Plan.Recovery, .l (K1 19) (x.Products.l.map AProduct.dv) x.Products.t, .l (K1 7) (x.Accounts.l.map AAccount.dv) x.Accounts.t, .l (K1 10) (x.Journal.l.map AEntry.dv) x.Journal.t, .l (K1 6) (x.Holds.l.map AHold.dv) x.Holds.t, .l (K1 7) (x.Blocks.l.map ABlock.dv) x.Blocks.t]
def ABooks.dv (x : ABooks) : DV := .a [.l (K1 2) (x.Currencies.l.map ACurrency.dv) x.Currencies.t, .l (K1 3) (x.Calendars.l.map ACalendar.dv) x.Calendars.t, .l (K1 4) (x.Chart.l.map AGl.dv) x.Chart.t, I x.Plan.Cash, I x.Plan.Deposits, I x.Plan.InterestPaid, I x.Plan.InterestEarned, I x.Plan.FeeEarned, I x.Plan.Tax, I x.Plan.Clearing, I x.Plan.Loans, I x.Plan.LoanInterest, I x.Plan.Penalty, I x.Plan.Provision, I x.Plan.ProvisionCost, I x.Plan.Loss, I x.Plan.Recovery, .l (K1 19) (x.Products.l.map AProduct.dv) x.Products.t, .l (K1 7) (x.Accounts.l.map AAccount.dv) x.Accounts.t, .l (K1 10) (x.Journal.l.map AEntry.dv) x.Journal.t, .l (K1 6) (x.Holds.l.map AHold.dv) x.Holds.t, .l (K1 7) (x.Blocks.l.map ABlock.dv) x.Blocks.t]
@[simp] theorem ABooks.fits (x : ABooks) : Sim.fits (K1 22) (.d (ABooks.dv x)) = true := rfl
@[simp] theorem ABooks.purT (x : ABooks) (H : Heap) : Sim.purT H (.d (ABooks.dv x)) = some (.d (ABooks.dv x), false) := rfl
@[simp] theorem ABooks.clen (x : ABooks) : (ABooks.dv x).cells.length = 22 := rfl
@[simp] theorem ABooks.aof (x : ABooks) : DV.a (ABooks.cells x) = ABooks.dv x := rfl
@[simp] theorem ABooks.ccl (x : ABooks) : (ABooks.cells x).length = 22 := rfl
@[simp] theorem ABooks.n3_14 (x : ABooks) : ((ABooks.dv x).cells.drop 3).take 14 = APlan.cells x.Plan := rfl
@[simp] theorem ABooks.c0 (x : ABooks) : (ABooks.dv x).cells[0]? = some (.l (K1 2) (x.Currencies.l.map ACurrency.dv) x.Currencies.t) := rfl
@[simp] theorem ABooks.c1 (x : ABooks) : (ABooks.dv x).cells[1]? = some (.l (K1 3) (x.Calendars.l.map ACalendar.dv) x.Calendars.t) := rfl
@[simp] theorem ABooks.c2 (x : ABooks) : (ABooks.dv x).cells[2]? = some (.l (K1 4) (x.Chart.l.map AGl.dv) x.Chart.t) := rfl
@[simp] theorem ABooks.c3 (x : ABooks) : (ABooks.dv x).cells[3]? = some (I x.Plan.Cash) := rfl
@[simp] theorem ABooks.c4 (x : ABooks) : (ABooks.dv x).cells[4]? = some (I x.Plan.Deposits) := rfl
@[simp] theorem ABooks.c5 (x : ABooks) : (ABooks.dv x).cells[5]? = some (I x.Plan.InterestPaid) := rfl
@[simp] theorem ABooks.c6 (x : ABooks) : (ABooks.dv x).cells[6]? = some (I x.Plan.InterestEarned) := rfl
@[simp] theorem ABooks.c7 (x : ABooks) : (ABooks.dv x).cells[7]? = some (I x.Plan.FeeEarned) := rfl
@[simp] theorem ABooks.c8 (x : ABooks) : (ABooks.dv x).cells[8]? = some (I x.Plan.Tax) := rfl
@[simp] theorem ABooks.c9 (x : ABooks) : (ABooks.dv x).cells[9]? = some (I x.Plan.Clearing) := rfl
@[simp] theorem ABooks.c10 (x : ABooks) : (ABooks.dv x).cells[10]? = some (I x.Plan.Loans) := rfl
@[simp] theorem ABooks.c11 (x : ABooks) : (ABooks.dv x).cells[11]? = some (I x.Plan.LoanInterest) := rfl
@[simp] theorem ABooks.c12 (x : ABooks) : (ABooks.dv x).cells[12]? = some (I x.Plan.Penalty) := rfl
@[simp] theorem ABooks.c13 (x : ABooks) : (ABooks.dv x).cells[13]? = some (I x.Plan.Provision) := rfl
@[simp] theorem ABooks.c14 (x : ABooks) : (ABooks.dv x).cells[14]? = some (I x.Plan.ProvisionCost) := rfl
@[simp] theorem ABooks.c15 (x : ABooks) : (ABooks.dv x).cells[15]? = some (I x.Plan.Loss) := rfl
@[simp] theorem ABooks.c16 (x : ABooks) : (ABooks.dv x).cells[16]? = some (I x.Plan.Recovery) := rfl
@[simp] theorem ABooks.c17 (x : ABooks) : (ABooks.dv x).cells[17]? = some (.l (K1 19) (x.Products.l.map AProduct.dv) x.Products.t) := rfl
@[simp] theorem ABooks.c18 (x : ABooks) : (ABooks.dv x).cells[18]? = some (.l (K1 7) (x.Accounts.l.map AAccount.dv) x.Accounts.t) := rfl
@[simp] theorem ABooks.c19 (x : ABooks) : (ABooks.dv x).cells[19]? = some (.l (K1 10) (x.Journal.l.map AEntry.dv) x.Journal.t) := rfl
@[simp] theorem ABooks.c20 (x : ABooks) : (ABooks.dv x).cells[20]? = some (.l (K1 6) (x.Holds.l.map AHold.dv) x.Holds.t) := rfl
@[simp] theorem ABooks.c21 (x : ABooks) : (ABooks.dv x).cells[21]? = some (.l (K1 7) (x.Blocks.l.map ABlock.dv) x.Blocks.t) := rfl
end Go.Sim
end
section
namespace Go.Sim
theorem hasL_cons {t : Ty} {ts : List Ty} {xs : List DV} (h : HasL (t :: ts) xs) : ∃ x r, xs = x :: r ∧ Has t x ∧ HasL ts r := by
 cases xs with
 | nil => simp [HasL] at h
 | cons x r => rw [HasL] at h; exact ⟨x, r, rfl, h.1, h.2⟩
theorem hasL_nil {xs : List DV} (h : HasL [] xs) : xs = [] := by
 cases xs with
 | nil => rfl
 | cons x r => simp [HasL] at h
theorem has_i {k : IntKind} {x : DV} (h : Has (.i k) x) : ∃ n, x = .i k n ∧ (Lit.int k n).wf = true := by rw [Has] at h; exact h
theorem has_b {x : DV} (h : Has .b x) : ∃ c, x = .b c := by rw [Has] at h; exact h
theorem has_s {x : DV} (h : Has .s x) : ∃ l, x = .s l ∧ l.length ≤ maxLen := by rw [Has] at h; exact h
theorem mkD_some {n : Nat} {xs : List DV} {e : DV} (h : mkD (some n) xs = some e) : e = .a xs := by
 simp only [mkD] at h
 split at h
 ·cases h; rfl
 ·cases h
end Go.Sim
end
section
namespace Go.Sim
def inK (k : IntKind) (n : Int) : Prop := (Lit.int k n).wf = true
theorem list_of' {α : Type} {f : α → DV} {p : α → Prop} : ∀ {es : List DV}, (∀ e ∈ es, ∃ a, e = f a ∧ p a) → ∃ l : List α, es = l.map f ∧ ∀ a ∈ l, p a
 | [], _ => ⟨[], rfl, fun a h => by cases h⟩
 | e :: es, h => by
  obtain ⟨a, ha, hp⟩ := h e (List.mem_cons_self ..)
  obtain ⟨l, hl, hq⟩ := list_of' (fun x hx => h x (List.mem_cons_of_mem _ hx))
  refine ⟨a :: l, by rw [ha, hl]; rfl, fun b hb => ?_⟩
  rcases List.mem_cons.1 hb with rfl | hb
  ·exact hp
  ·exact hq b hb
theorem to_l {α : Type} {f : α → DV} {p : α → Prop} {n : Nat} {ts : List Ty} {x : DV} (h : Has (.l (some n) ts) x) (hf : ∀ cs, HasL ts cs → ∃ a, DV.a cs = f a ∧ p a) : ∃ s : SL α, x = .l (some n) (s.l.map f) s.t ∧ s.l.length ≤ maxLen ∧ ∀ a ∈ s.l, p a := by
 rw [Has] at h
 obtain ⟨es, rfl, h1, h2⟩ := h
 obtain ⟨l, rfl, hp⟩ := list_of' (f := f) (p := p) (es := es) fun e he => by
  obtain ⟨cs, h3, h4⟩ := h2 e he
  obtain ⟨a, ha, hp⟩ := hf cs h4
  exact ⟨a, by rw [mkD_some h3]; exact ha, hp⟩
 exact ⟨⟨l, false⟩, rfl, by simpa using h1, hp⟩
theorem to_l1 {α : Type} {f : α → DV} {p : α → Prop} {t : Ty} {x : DV} (h : Has (.l none [t]) x) (hf : ∀ y, Has t y → ∃ a, y = f a ∧ p a) : ∃ s : SL α, x = .l none (s.l.map f) s.t ∧ s.l.length ≤ maxLen ∧ ∀ a ∈ s.l, p a := by
 rw [Has] at h
 obtain ⟨es, rfl, h1, h2⟩ := h
 obtain ⟨l, rfl, hp⟩ := list_of' (f := f) (p := p) (es := es) fun e he => by
  obtain ⟨cs, h3, h4⟩ := h2 e he
  obtain ⟨y, r, rfl, h5, h6⟩ := hasL_cons h4
  obtain rfl := hasL_nil h6
  simp only [mkD, Option.some.injEq] at h3
  subst h3
  exact hf y h5
 exact ⟨⟨l, false⟩, rfl, by simpa using h1, hp⟩
theorem to_x {x : DV} (h : Has .e x) : ∃ s : SL DV, x = .l (K1 4) s.l s.t ∧ XL (.l (K1 4) s.l s.t) := by
 rw [Has] at h
 cases h with
 | mk es t h1 h2 => exact ⟨⟨es, t⟩, rfl, .mk es t h1 h2⟩
def ACurrency.ok (x : ACurrency) : Prop := x.Code.length ≤ maxLen ∧ inK .i64 x.Digits
def ACurrency.ty : List Ty := [.s, .i .i64]
theorem ACurrency.of (cs : List DV) (h : HasL ACurrency.ty cs) : ∃ x : ACurrency, DV.a cs = x.dv ∧ x.ok := by
 obtain ⟨_, _, rfl, h0, h⟩ := hasL_cons h
 obtain ⟨_, _, rfl, h1, h⟩ := hasL_cons h
 obtain rfl := hasL_nil h
 obtain ⟨Code, rfl, p_Code⟩ := has_s h0
 obtain ⟨Digits, rfl, p_Digits⟩ := has_i h1
 exact ⟨⟨Code, Digits⟩, rfl, ⟨p_Code, p_Digits⟩⟩
def ACalendar.ok (x : ACalendar) : Prop := x.Name.length ≤ maxLen ∧ (x.Weekend.l.length ≤ maxLen ∧ ∀ y ∈ x.Weekend.l, inK .i64 y) ∧ (x.Holidays.l.length ≤ maxLen ∧ ∀ y ∈ x.Holidays.l, inK .i64 y)
def ACalendar.ty : List Ty := [.s, .l none [.i .i64], .l none [.i .i64]]
theorem ACalendar.of (cs : List DV) (h : HasL ACalendar.ty cs) : ∃ x : ACalendar, DV.a cs = x.dv ∧ x.ok := by
 obtain ⟨_, _, rfl, h0, h⟩ := hasL_cons h
 obtain ⟨_, _, rfl, h1, h⟩ := hasL_cons h
 obtain ⟨_, _, rfl, h2, h⟩ := hasL_cons h
 obtain rfl := hasL_nil h
 obtain ⟨Name, rfl, p_Name⟩ := has_s h0
 obtain ⟨Weekend, rfl, p_Weekend⟩ := (fun h => to_l1 (f := I) (p := fun y => inK .i64 y) h fun y hy => has_i hy) h1
 obtain ⟨Holidays, rfl, p_Holidays⟩ := (fun h => to_l1 (f := I) (p := fun y => inK .i64 y) h fun y hy => has_i hy) h2
 exact ⟨⟨Name, Weekend, Holidays⟩, rfl, ⟨p_Name, p_Weekend, p_Holidays⟩⟩
def ATier.ok (x : ATier) : Prop := inK .i64 x.From ∧ inK .i64 x.Ppm
def ATier.ty : List Ty := [.i .i64, .i .i64]
theorem ATier.of (cs : List DV) (h : HasL ATier.ty cs) : ∃ x : ATier, DV.a cs = x.dv ∧ x.ok := by
 obtain ⟨_, _, rfl, h0, h⟩ := hasL_cons h
 obtain ⟨_, _, rfl, h1, h⟩ := hasL_cons h
 obtain rfl := hasL_nil h
 obtain ⟨From, rfl, p_From⟩ := has_i h0
 obtain ⟨Ppm, rfl, p_Ppm⟩ := has_i h1
 exact ⟨⟨From, Ppm⟩, rfl, ⟨p_From, p_Ppm⟩⟩
def AInterest.ok (x : AInterest) : Prop := (x.Tiers.l.length ≤ maxLen ∧ ∀ y ∈ x.Tiers.l, y.ok) ∧ inK .i64 x.Basis ∧ inK .i64 x.Mode
def AInterest.ty : List Ty := [.l (K1 2) ATier.ty, .b, .i .i64, .i .i64, .b]
theorem AInterest.of (cs : List DV) (h : HasL AInterest.ty cs) : ∃ x : AInterest, DV.a cs = x.dv ∧ x.ok := by
 obtain ⟨_, _, rfl, h0, h⟩ := hasL_cons h
 obtain ⟨_, _, rfl, h1, h⟩ := hasL_cons h
 obtain ⟨_, _, rfl, h2, h⟩ := hasL_cons h
 obtain ⟨_, _, rfl, h3, h⟩ := hasL_cons h
 obtain ⟨_, _, rfl, h4, h⟩ := hasL_cons h
 obtain rfl := hasL_nil h
 obtain ⟨Tiers, rfl, p_Tiers⟩ := (fun h => to_l h ATier.of) h0
 obtain ⟨Marginal, rfl⟩ := has_b h1
 obtain ⟨Basis, rfl, p_Basis⟩ := has_i h2
 obtain ⟨Mode, rfl, p_Mode⟩ := has_i h3
 obtain ⟨Keep, rfl⟩ := has_b h4
 exact ⟨⟨Tiers, Marginal, Basis, Mode, Keep⟩, rfl, ⟨p_Tiers, p_Basis, p_Mode⟩⟩
def AExpr.ok (x : AExpr) : Prop := inK .i64 x.Op ∧ inK .i64 x.N ∧ x.S.length ≤ maxLen ∧ XL (.l (K1 4) x.Args.l x.Args.t)
def AFee.ok (x : AFee) : Prop := x.Name.length ≤ maxLen ∧ inK .i64 x.Event ∧ x.When.ok ∧ x.Amount.ok
def AFee.ty : List Ty := [.s, .i .i64, .i .i64, .i .i64, .s, .e, .i .i64, .i .i64, .s, .e]
theorem AFee.of (cs : List DV) (h : HasL AFee.ty cs) : ∃ x : AFee, DV.a cs = x.dv ∧ x.ok := by
 obtain ⟨_, _, rfl, h0, h⟩ := hasL_cons h
 obtain ⟨_, _, rfl, h1, h⟩ := hasL_cons h
 obtain ⟨_, _, rfl, h2, h⟩ := hasL_cons h
 obtain ⟨_, _, rfl, h3, h⟩ := hasL_cons h
 obtain ⟨_, _, rfl, h4, h⟩ := hasL_cons h
 obtain ⟨_, _, rfl, h5, h⟩ := hasL_cons h
 obtain ⟨_, _, rfl, h6, h⟩ := hasL_cons h
 obtain ⟨_, _, rfl, h7, h⟩ := hasL_cons h
 obtain ⟨_, _, rfl, h8, h⟩ := hasL_cons h
 obtain ⟨_, _, rfl, h9, h⟩ := hasL_cons h
 obtain rfl := hasL_nil h
 obtain ⟨Name, rfl, p_Name⟩ := has_s h0
 obtain ⟨Event, rfl, p_Event⟩ := has_i h1
 obtain ⟨When_Op, rfl, p_When_Op⟩ := has_i h2
 obtain ⟨When_N, rfl, p_When_N⟩ := has_i h3
 obtain ⟨When_S, rfl, p_When_S⟩ := has_s h4
 obtain ⟨When_Args, rfl, p_When_Args⟩ := to_x h5
 obtain ⟨Amount_Op, rfl, p_Amount_Op⟩ := has_i h6
 obtain ⟨Amount_N, rfl, p_Amount_N⟩ := has_i h7
 obtain ⟨Amount_S, rfl, p_Amount_S⟩ := has_s h8
 obtain ⟨Amount_Args, rfl, p_Amount_Args⟩ := to_x h9
 exact ⟨⟨Name, Event, ⟨When_Op, When_N, When_S, When_Args⟩, ⟨Amount_Op, Amount_N, Amount_S, Amount_Args⟩⟩, rfl, ⟨p_Name, p_Event, ⟨p_When_Op, p_When_N, p_When_S, p_When_Args⟩, ⟨p_Amount_Op, p_Amount_N, p_Amount_S, p_Amount_Args⟩⟩⟩
def ARule.ok (x : ARule) : Prop := x.Name.length ≤ maxLen ∧ inK .i64 x.Window ∧ x.Amount.ok
def ARule.ty : List Ty := [.s, .i .i64, .i .i64, .i .i64, .s, .e]
theorem ARule.of (cs : List DV) (h : HasL ARule.ty cs) : ∃ x : ARule, DV.a cs = x.dv ∧ x.ok := by
 obtain ⟨_, _, rfl, h0, h⟩ := hasL_cons h
 obtain ⟨_, _, rfl, h1, h⟩ := hasL_cons h
 obtain ⟨_, _, rfl, h2, h⟩ := hasL_cons h
 obtain ⟨_, _, rfl, h3, h⟩ := hasL_cons h
 obtain ⟨_, _, rfl, h4, h⟩ := hasL_cons h
 obtain ⟨_, _, rfl, h5, h⟩ := hasL_cons h
 obtain rfl := hasL_nil h
 obtain ⟨Name, rfl, p_Name⟩ := has_s h0
 obtain ⟨Window, rfl, p_Window⟩ := has_i h1
 obtain ⟨Amount_Op, rfl, p_Amount_Op⟩ := has_i h2
 obtain ⟨Amount_N, rfl, p_Amount_N⟩ := has_i h3
 obtain ⟨Amount_S, rfl, p_Amount_S⟩ := has_s h4
 obtain ⟨Amount_Args, rfl, p_Amount_Args⟩ := to_x h5
 exact ⟨⟨Name, Window, ⟨Amount_Op, Amount_N, Amount_S, Amount_Args⟩⟩, rfl, ⟨p_Name, p_Window, ⟨p_Amount_Op, p_Amount_N, p_Amount_S, p_Amount_Args⟩⟩⟩
def AProduct.ok (x : AProduct) : Prop := x.Name.length ≤ maxLen ∧ x.Currency.length ≤ maxLen ∧ x.Calendar.length ≤ maxLen ∧ inK .i64 x.From ∧ inK .i64 x.Every ∧ inK .i64 x.Overdraft ∧ inK .i64 x.TaxPpm ∧ x.Credit.ok ∧ x.Debit.ok ∧ (x.Fees.l.length ≤ maxLen ∧ ∀ y ∈ x.Fees.l, y.ok) ∧ (x.Rules.l.length ≤ maxLen ∧ ∀ y ∈ x.Rules.l, y.ok)
def AProduct.ty : List Ty := [.s, .s, .s, .i .i64, .i .i64, .i .i64, .i .i64, .l (K1 2) ATier.ty, .b, .i .i64, .i .i64, .b, .l (K1 2) ATier.ty, .b, .i .i64, .i .i64, .b, .l (K1 10) AFee.ty, .l (K1 6) ARule.ty]
theorem AProduct.of (cs : List DV) (h : HasL AProduct.ty cs) : ∃ x : AProduct, DV.a cs = x.dv ∧ x.ok := by
 obtain ⟨_, _, rfl, h0, h⟩ := hasL_cons h
 obtain ⟨_, _, rfl, h1, h⟩ := hasL_cons h
 obtain ⟨_, _, rfl, h2, h⟩ := hasL_cons h
 obtain ⟨_, _, rfl, h3, h⟩ := hasL_cons h
 obtain ⟨_, _, rfl, h4, h⟩ := hasL_cons h
 obtain ⟨_, _, rfl, h5, h⟩ := hasL_cons h
 obtain ⟨_, _, rfl, h6, h⟩ := hasL_cons h
 obtain ⟨_, _, rfl, h7, h⟩ := hasL_cons h
 obtain ⟨_, _, rfl, h8, h⟩ := hasL_cons h
 obtain ⟨_, _, rfl, h9, h⟩ := hasL_cons h
 obtain ⟨_, _, rfl, h10, h⟩ := hasL_cons h
 obtain ⟨_, _, rfl, h11, h⟩ := hasL_cons h
 obtain ⟨_, _, rfl, h12, h⟩ := hasL_cons h
 obtain ⟨_, _, rfl, h13, h⟩ := hasL_cons h
 obtain ⟨_, _, rfl, h14, h⟩ := hasL_cons h
 obtain ⟨_, _, rfl, h15, h⟩ := hasL_cons h
 obtain ⟨_, _, rfl, h16, h⟩ := hasL_cons h
 obtain ⟨_, _, rfl, h17, h⟩ := hasL_cons h
 obtain ⟨_, _, rfl, h18, h⟩ := hasL_cons h
 obtain rfl := hasL_nil h
 obtain ⟨Name, rfl, p_Name⟩ := has_s h0
 obtain ⟨Currency, rfl, p_Currency⟩ := has_s h1
 obtain ⟨Calendar, rfl, p_Calendar⟩ := has_s h2
 obtain ⟨From, rfl, p_From⟩ := has_i h3
 obtain ⟨Every, rfl, p_Every⟩ := has_i h4
 obtain ⟨Overdraft, rfl, p_Overdraft⟩ := has_i h5
 obtain ⟨TaxPpm, rfl, p_TaxPpm⟩ := has_i h6
 obtain ⟨Credit_Tiers, rfl, p_Credit_Tiers⟩ := (fun h => to_l h ATier.of) h7
 obtain ⟨Credit_Marginal, rfl⟩ := has_b h8
 obtain ⟨Credit_Basis, rfl, p_Credit_Basis⟩ := has_i h9
 obtain ⟨Credit_Mode, rfl, p_Credit_Mode⟩ := has_i h10
 obtain ⟨Credit_Keep, rfl⟩ := has_b h11
 obtain ⟨Debit_Tiers, rfl, p_Debit_Tiers⟩ := (fun h => to_l h ATier.of) h12
 obtain ⟨Debit_Marginal, rfl⟩ := has_b h13
 obtain ⟨Debit_Basis, rfl, p_Debit_Basis⟩ := has_i h14
 obtain ⟨Debit_Mode, rfl, p_Debit_Mode⟩ := has_i h15
 obtain ⟨Debit_Keep, rfl⟩ := has_b h16
 obtain ⟨Fees, rfl, p_Fees⟩ := (fun h => to_l h AFee.of) h17
 obtain ⟨Rules, rfl, p_Rules⟩ := (fun h => to_l h ARule.of) h18
 exact ⟨⟨Name, Currency, Calendar, From, Every, Overdraft, TaxPpm, ⟨Credit_Tiers, Credit_Marginal, Credit_Basis, Credit_Mode, Credit_Keep⟩, ⟨Debit_Tiers, Debit_Marginal, Debit_Basis, Debit_Mode, Debit_Keep⟩, Fees, Rules⟩, rfl, ⟨p_Name, p_Currency, p_Calendar, p_From, p_Every, p_Overdraft, p_TaxPpm, ⟨p_Credit_Tiers, p_Credit_Basis, p_Credit_Mode⟩, ⟨p_Debit_Tiers, p_Debit_Basis, p_Debit_Mode⟩, p_Fees, p_Rules⟩⟩
def AGl.ok (x : AGl) : Prop := inK .i64 x.Id ∧ inK .i64 x.Parent ∧ inK .i64 x.Kind ∧ x.Name.length ≤ maxLen
def AGl.ty : List Ty := [.i .i64, .i .i64, .i .i64, .s]
theorem AGl.of (cs : List DV) (h : HasL AGl.ty cs) : ∃ x : AGl, DV.a cs = x.dv ∧ x.ok := by
 obtain ⟨_, _, rfl, h0, h⟩ := hasL_cons h
 obtain ⟨_, _, rfl, h1, h⟩ := hasL_cons h
 obtain ⟨_, _, rfl, h2, h⟩ := hasL_cons h
 obtain ⟨_, _, rfl, h3, h⟩ := hasL_cons h
 obtain rfl := hasL_nil h
 obtain ⟨Id, rfl, p_Id⟩ := has_i h0
 obtain ⟨Parent, rfl, p_Parent⟩ := has_i h1
 obtain ⟨Kind, rfl, p_Kind⟩ := has_i h2
 obtain ⟨Name, rfl, p_Name⟩ := has_s h3
 exact ⟨⟨Id, Parent, Kind, Name⟩, rfl, ⟨p_Id, p_Parent, p_Kind, p_Name⟩⟩
def ALeg.ok (x : ALeg) : Prop := inK .i64 x.Account ∧ inK .i64 x.Amount ∧ x.Currency.length ≤ maxLen
def ALeg.ty : List Ty := [.i .i64, .i .i64, .s]
theorem ALeg.of (cs : List DV) (h : HasL ALeg.ty cs) : ∃ x : ALeg, DV.a cs = x.dv ∧ x.ok := by
 obtain ⟨_, _, rfl, h0, h⟩ := hasL_cons h
 obtain ⟨_, _, rfl, h1, h⟩ := hasL_cons h
 obtain ⟨_, _, rfl, h2, h⟩ := hasL_cons h
 obtain rfl := hasL_nil h
 obtain ⟨Account, rfl, p_Account⟩ := has_i h0
 obtain ⟨Amount, rfl, p_Amount⟩ := has_i h1
 obtain ⟨Currency, rfl, p_Currency⟩ := has_s h2
 exact ⟨⟨Account, Amount, Currency⟩, rfl, ⟨p_Account, p_Amount, p_Currency⟩⟩
def AEntry.ok (x : AEntry) : Prop := inK .i64 x.Id ∧ inK .i64 x.Booked ∧ inK .i64 x.Value ∧ inK .i64 x.Kind ∧ inK .i64 x.Auth ∧ inK .i64 x.Period ∧ x.Key.length ≤ maxLen ∧ x.Text.length ≤ maxLen ∧ (x.Legs.l.length ≤ maxLen ∧ ∀ y ∈ x.Legs.l, y.ok) ∧ inK .u64 x.Chain
def AEntry.ty : List Ty := [.i .i64, .i .i64, .i .i64, .i .i64, .i .i64, .i .i64, .s, .s, .l (K1 3) ALeg.ty, .i .u64]
theorem AEntry.of (cs : List DV) (h : HasL AEntry.ty cs) : ∃ x : AEntry, DV.a cs = x.dv ∧ x.ok := by
 obtain ⟨_, _, rfl, h0, h⟩ := hasL_cons h
 obtain ⟨_, _, rfl, h1, h⟩ := hasL_cons h
 obtain ⟨_, _, rfl, h2, h⟩ := hasL_cons h
 obtain ⟨_, _, rfl, h3, h⟩ := hasL_cons h
 obtain ⟨_, _, rfl, h4, h⟩ := hasL_cons h
 obtain ⟨_, _, rfl, h5, h⟩ := hasL_cons h
 obtain ⟨_, _, rfl, h6, h⟩ := hasL_cons h
 obtain ⟨_, _, rfl, h7, h⟩ := hasL_cons h
 obtain ⟨_, _, rfl, h8, h⟩ := hasL_cons h
 obtain ⟨_, _, rfl, h9, h⟩ := hasL_cons h
 obtain rfl := hasL_nil h
 obtain ⟨Id, rfl, p_Id⟩ := has_i h0
 obtain ⟨Booked, rfl, p_Booked⟩ := has_i h1
 obtain ⟨Value, rfl, p_Value⟩ := has_i h2
 obtain ⟨Kind, rfl, p_Kind⟩ := has_i h3
 obtain ⟨Auth, rfl, p_Auth⟩ := has_i h4
 obtain ⟨Period, rfl, p_Period⟩ := has_i h5
 obtain ⟨Key, rfl, p_Key⟩ := has_s h6
 obtain ⟨Text, rfl, p_Text⟩ := has_s h7
 obtain ⟨Legs, rfl, p_Legs⟩ := (fun h => to_l h ALeg.of) h8
 obtain ⟨Chain, rfl, p_Chain⟩ := has_i h9
 exact ⟨⟨Id, Booked, Value, Kind, Auth, Period, Key, Text, Legs, Chain⟩, rfl, ⟨p_Id, p_Booked, p_Value, p_Kind, p_Auth, p_Period, p_Key, p_Text, p_Legs, p_Chain⟩⟩
def AHold.ok (x : AHold) : Prop := inK .i64 x.Id ∧ inK .i64 x.Account ∧ inK .i64 x.Amount ∧ inK .i64 x.From ∧ inK .i64 x.To ∧ x.Key.length ≤ maxLen
def AHold.ty : List Ty := [.i .i64, .i .i64, .i .i64, .i .i64, .i .i64, .s]
theorem AHold.of (cs : List DV) (h : HasL AHold.ty cs) : ∃ x : AHold, DV.a cs = x.dv ∧ x.ok := by
 obtain ⟨_, _, rfl, h0, h⟩ := hasL_cons h
 obtain ⟨_, _, rfl, h1, h⟩ := hasL_cons h
 obtain ⟨_, _, rfl, h2, h⟩ := hasL_cons h
 obtain ⟨_, _, rfl, h3, h⟩ := hasL_cons h
 obtain ⟨_, _, rfl, h4, h⟩ := hasL_cons h
 obtain ⟨_, _, rfl, h5, h⟩ := hasL_cons h
 obtain rfl := hasL_nil h
 obtain ⟨Id, rfl, p_Id⟩ := has_i h0
 obtain ⟨Account, rfl, p_Account⟩ := has_i h1
 obtain ⟨Amount, rfl, p_Amount⟩ := has_i h2
 obtain ⟨From, rfl, p_From⟩ := has_i h3
 obtain ⟨To, rfl, p_To⟩ := has_i h4
 obtain ⟨Key, rfl, p_Key⟩ := has_s h5
 exact ⟨⟨Id, Account, Amount, From, To, Key⟩, rfl, ⟨p_Id, p_Account, p_Amount, p_From, p_To, p_Key⟩⟩
def ABlock.ok (x : ABlock) : Prop := inK .i64 x.Id ∧ inK .i64 x.Account ∧ inK .i64 x.Kind ∧ inK .i64 x.Amount ∧ inK .i64 x.From ∧ inK .i64 x.To ∧ x.Source.length ≤ maxLen
def ABlock.ty : List Ty := [.i .i64, .i .i64, .i .i64, .i .i64, .i .i64, .i .i64, .s]
theorem ABlock.of (cs : List DV) (h : HasL ABlock.ty cs) : ∃ x : ABlock, DV.a cs = x.dv ∧ x.ok := by
 obtain ⟨_, _, rfl, h0, h⟩ := hasL_cons h
 obtain ⟨_, _, rfl, h1, h⟩ := hasL_cons h
 obtain ⟨_, _, rfl, h2, h⟩ := hasL_cons h
 obtain ⟨_, _, rfl, h3, h⟩ := hasL_cons h
 obtain ⟨_, _, rfl, h4, h⟩ := hasL_cons h
 obtain ⟨_, _, rfl, h5, h⟩ := hasL_cons h
 obtain ⟨_, _, rfl, h6, h⟩ := hasL_cons h
 obtain rfl := hasL_nil h
 obtain ⟨Id, rfl, p_Id⟩ := has_i h0
 obtain ⟨Account, rfl, p_Account⟩ := has_i h1
 obtain ⟨Kind, rfl, p_Kind⟩ := has_i h2
 obtain ⟨Amount, rfl, p_Amount⟩ := has_i h3
 obtain ⟨From, rfl, p_From⟩ := has_i h4
 obtain ⟨To, rfl, p_To⟩ := has_i h5
 obtain ⟨Source, rfl, p_Source⟩ := has_s h6
 exact ⟨⟨Id, Account, Kind, Amount, From, To, Source⟩, rfl, ⟨p_Id, p_Account, p_Kind, p_Amount, p_From, p_To, p_Source⟩⟩
def AAccount.ok (x : AAccount) : Prop := inK .i64 x.Id ∧ inK .i64 x.Opened ∧ inK .i64 x.Closed ∧ inK .i64 x.Extra ∧ x.Owner.length ≤ maxLen ∧ x.Product.length ≤ maxLen ∧ x.Number.length ≤ maxLen
def AAccount.ty : List Ty := [.i .i64, .i .i64, .i .i64, .i .i64, .s, .s, .s]
theorem AAccount.of (cs : List DV) (h : HasL AAccount.ty cs) : ∃ x : AAccount, DV.a cs = x.dv ∧ x.ok := by
 obtain ⟨_, _, rfl, h0, h⟩ := hasL_cons h
 obtain ⟨_, _, rfl, h1, h⟩ := hasL_cons h
 obtain ⟨_, _, rfl, h2, h⟩ := hasL_cons h
 obtain ⟨_, _, rfl, h3, h⟩ := hasL_cons h
 obtain ⟨_, _, rfl, h4, h⟩ := hasL_cons h
 obtain ⟨_, _, rfl, h5, h⟩ := hasL_cons h
 obtain ⟨_, _, rfl, h6, h⟩ := hasL_cons h
 obtain rfl := hasL_nil h
 obtain ⟨Id, rfl, p_Id⟩ := has_i h0
 obtain ⟨Opened, rfl, p_Opened⟩ := has_i h1
 obtain ⟨Closed, rfl, p_Closed⟩ := has_i h2
 obtain ⟨Extra, rfl, p_Extra⟩ := has_i h3
 obtain ⟨Owner, rfl, p_Owner⟩ := has_s h4
 obtain ⟨Product, rfl, p_Product⟩ := has_s h5
 obtain ⟨Number, rfl, p_Number⟩ := has_s h6
 exact ⟨⟨Id, Opened, Closed, Extra, Owner, Product, Number⟩, rfl, ⟨p_Id, p_Opened, p_Closed, p_Extra, p_Owner, p_Product, p_Number⟩⟩
def APlan.ok (x : APlan) : Prop := inK .i64 x.Cash ∧ inK .i64 x.Deposits ∧ inK .i64 x.InterestPaid ∧ inK .i64 x.InterestEarned ∧ inK .i64 x.FeeEarned ∧ inK .i64 x.Tax ∧ inK .i64 x.Clearing ∧ inK .i64 x.Loans ∧ inK .i64 x.LoanInterest ∧ inK .i64 x.Penalty ∧ inK .i64 x.Provision ∧ inK .i64 x.ProvisionCost ∧ inK .i64 x.Loss ∧ inK .i64 x.Recovery
def APlan.ty : List Ty := [.i .i64, .i .i64, .i .i64, .i .i64, .i .i64, .i .i64, .i .i64, .i .i64, .i .i64, .i .i64, .i .i64, .i .i64, .i .i64, .i .i64]
theorem APlan.of (cs : List DV) (h : HasL APlan.ty cs) : ∃ x : APlan, DV.a cs = x.dv ∧ x.ok := by
 obtain ⟨_, _, rfl, h0, h⟩ := hasL_cons h
 obtain ⟨_, _, rfl, h1, h⟩ := hasL_cons h
 obtain ⟨_, _, rfl, h2, h⟩ := hasL_cons h
 obtain ⟨_, _, rfl, h3, h⟩ := hasL_cons h
 obtain ⟨_, _, rfl, h4, h⟩ := hasL_cons h
 obtain ⟨_, _, rfl, h5, h⟩ := hasL_cons h
 obtain ⟨_, _, rfl, h6, h⟩ := hasL_cons h
 obtain ⟨_, _, rfl, h7, h⟩ := hasL_cons h
 obtain ⟨_, _, rfl, h8, h⟩ := hasL_cons h
 obtain ⟨_, _, rfl, h9, h⟩ := hasL_cons h
 obtain ⟨_, _, rfl, h10, h⟩ := hasL_cons h
 obtain ⟨_, _, rfl, h11, h⟩ := hasL_cons h
 obtain ⟨_, _, rfl, h12, h⟩ := hasL_cons h
 obtain ⟨_, _, rfl, h13, h⟩ := hasL_cons h
 obtain rfl := hasL_nil h
 obtain ⟨Cash, rfl, p_Cash⟩ := has_i h0
 obtain ⟨Deposits, rfl, p_Deposits⟩ := has_i h1
 obtain ⟨InterestPaid, rfl, p_InterestPaid⟩ := has_i h2
 obtain ⟨InterestEarned, rfl, p_InterestEarned⟩ := has_i h3
 obtain ⟨FeeEarned, rfl, p_FeeEarned⟩ := has_i h4
 obtain ⟨Tax, rfl, p_Tax⟩ := has_i h5
 obtain ⟨Clearing, rfl, p_Clearing⟩ := has_i h6
 obtain ⟨Loans, rfl, p_Loans⟩ := has_i h7
 obtain ⟨LoanInterest, rfl, p_LoanInterest⟩ := has_i h8
 obtain ⟨Penalty, rfl, p_Penalty⟩ := has_i h9
 obtain ⟨Provision, rfl, p_Provision⟩ := has_i h10
 obtain ⟨ProvisionCost, rfl, p_ProvisionCost⟩ := has_i h11
 obtain ⟨Loss, rfl, p_Loss⟩ := has_i h12
 obtain ⟨Recovery, rfl, p_Recovery⟩ := has_i h13
 exact ⟨⟨Cash, Deposits, InterestPaid, InterestEarned, FeeEarned, Tax, Clearing, Loans, LoanInterest, Penalty, Provision, ProvisionCost, Loss, Recovery⟩, rfl, ⟨p_Cash, p_Deposits, p_InterestPaid, p_InterestEarned, p_FeeEarned, p_Tax, p_Clearing, p_Loans, p_LoanInterest, p_Penalty, p_Provision, p_ProvisionCost, p_Loss, p_Recovery⟩⟩
def ABooks.ok (x : ABooks) : Prop := (x.Currencies.l.length ≤ maxLen ∧ ∀ y ∈ x.Currencies.l, y.ok) ∧ (x.Calendars.l.length ≤ maxLen ∧ ∀ y ∈ x.Calendars.l, y.ok) ∧ (x.Chart.l.length ≤ maxLen ∧ ∀ y ∈ x.Chart.l, y.ok) ∧ x.Plan.ok ∧ (x.Products.l.length ≤ maxLen ∧ ∀ y ∈ x.Products.l, y.ok) ∧ (x.Accounts.l.length ≤ maxLen ∧ ∀ y ∈ x.Accounts.l, y.ok) ∧ (x.Journal.l.length ≤ maxLen ∧ ∀ y ∈ x.Journal.l, y.ok) ∧ (x.Holds.l.length ≤ maxLen ∧ ∀ y ∈ x.Holds.l, y.ok) ∧ (x.Blocks.l.length ≤ maxLen ∧ ∀ y ∈ x.Blocks.l, y.ok)
def ABooks.ty : List Ty := [.l (K1 2) ACurrency.ty, .l (K1 3) ACalendar.ty, .l (K1 4) AGl.ty, .i .i64, .i .i64, .i .i64, .i .i64, .i .i64, .i .i64, .i .i64, .i .i64, .i .i64, .i .i64, .i .i64, .i .i64, .i .i64, .i .i64, .l (K1 19) AProduct.ty, .l (K1 7) AAccount.ty, .l (K1 10) AEntry.ty, .l (K1 6) AHold.ty, .l (K1 7) ABlock.ty]
theorem ABooks.of (cs : List DV) (h : HasL ABooks.ty cs) : ∃ x : ABooks, DV.a cs = x.dv ∧ x.ok := by
 obtain ⟨_, _, rfl, h0, h⟩ := hasL_cons h
 obtain ⟨_, _, rfl, h1, h⟩ := hasL_cons h
 obtain ⟨_, _, rfl, h2, h⟩ := hasL_cons h
 obtain ⟨_, _, rfl, h3, h⟩ := hasL_cons h
 obtain ⟨_, _, rfl, h4, h⟩ := hasL_cons h
 obtain ⟨_, _, rfl, h5, h⟩ := hasL_cons h
 obtain ⟨_, _, rfl, h6, h⟩ := hasL_cons h
 obtain ⟨_, _, rfl, h7, h⟩ := hasL_cons h
 obtain ⟨_, _, rfl, h8, h⟩ := hasL_cons h
 obtain ⟨_, _, rfl, h9, h⟩ := hasL_cons h
 obtain ⟨_, _, rfl, h10, h⟩ := hasL_cons h
 obtain ⟨_, _, rfl, h11, h⟩ := hasL_cons h
 obtain ⟨_, _, rfl, h12, h⟩ := hasL_cons h
 obtain ⟨_, _, rfl, h13, h⟩ := hasL_cons h
 obtain ⟨_, _, rfl, h14, h⟩ := hasL_cons h
 obtain ⟨_, _, rfl, h15, h⟩ := hasL_cons h
 obtain ⟨_, _, rfl, h16, h⟩ := hasL_cons h
 obtain ⟨_, _, rfl, h17, h⟩ := hasL_cons h
 obtain ⟨_, _, rfl, h18, h⟩ := hasL_cons h
 obtain ⟨_, _, rfl, h19, h⟩ := hasL_cons h
 obtain ⟨_, _, rfl, h20, h⟩ := hasL_cons h
 obtain ⟨_, _, rfl, h21, h⟩ := hasL_cons h
 obtain rfl := hasL_nil h
 obtain ⟨Currencies, rfl, p_Currencies⟩ := (fun h => to_l h ACurrency.of) h0
 obtain ⟨Calendars, rfl, p_Calendars⟩ := (fun h => to_l h ACalendar.of) h1
 obtain ⟨Chart, rfl, p_Chart⟩ := (fun h => to_l h AGl.of) h2
 obtain ⟨Plan_Cash, rfl, p_Plan_Cash⟩ := has_i h3
 obtain ⟨Plan_Deposits, rfl, p_Plan_Deposits⟩ := has_i h4
 obtain ⟨Plan_InterestPaid, rfl, p_Plan_InterestPaid⟩ := has_i h5
 obtain ⟨Plan_InterestEarned, rfl, p_Plan_InterestEarned⟩ := has_i h6
 obtain ⟨Plan_FeeEarned, rfl, p_Plan_FeeEarned⟩ := has_i h7
 obtain ⟨Plan_Tax, rfl, p_Plan_Tax⟩ := has_i h8
 obtain ⟨Plan_Clearing, rfl, p_Plan_Clearing⟩ := has_i h9
 obtain ⟨Plan_Loans, rfl, p_Plan_Loans⟩ := has_i h10
 obtain ⟨Plan_LoanInterest, rfl, p_Plan_LoanInterest⟩ := has_i h11
 obtain ⟨Plan_Penalty, rfl, p_Plan_Penalty⟩ := has_i h12
 obtain ⟨Plan_Provision, rfl, p_Plan_Provision⟩ := has_i h13
 obtain ⟨Plan_ProvisionCost, rfl, p_Plan_ProvisionCost⟩ := has_i h14
 obtain ⟨Plan_Loss, rfl, p_Plan_Loss⟩ := has_i h15
 obtain ⟨Plan_Recovery, rfl, p_Plan_Recovery⟩ := has_i h16
 obtain ⟨Products, rfl, p_Products⟩ := (fun h => to_l h AProduct.of) h17
 obtain ⟨Accounts, rfl, p_Accounts⟩ := (fun h => to_l h AAccount.of) h18
 obtain ⟨Journal, rfl, p_Journal⟩ := (fun h => to_l h AEntry.of) h19
 obtain ⟨Holds, rfl, p_Holds⟩ := (fun h => to_l h AHold.of) h20
 obtain ⟨Blocks, rfl, p_Blocks⟩ := (fun h => to_l h ABlock.of) h21
 exact ⟨⟨Currencies, Calendars, Chart, ⟨Plan_Cash, Plan_Deposits, Plan_InterestPaid, Plan_InterestEarned, Plan_FeeEarned, Plan_Tax, Plan_Clearing, Plan_Loans, Plan_LoanInterest, Plan_Penalty, Plan_Provision, Plan_ProvisionCost, Plan_Loss, Plan_Recovery⟩, Products, Accounts, Journal, Holds, Blocks⟩, rfl, ⟨p_Currencies, p_Calendars, p_Chart, ⟨p_Plan_Cash, p_Plan_Deposits, p_Plan_InterestPaid, p_Plan_InterestEarned, p_Plan_FeeEarned, p_Plan_Tax, p_Plan_Clearing, p_Plan_Loans, p_Plan_LoanInterest, p_Plan_Penalty, p_Plan_Provision, p_Plan_ProvisionCost, p_Plan_Loss, p_Plan_Recovery⟩, p_Products, p_Accounts, p_Journal, p_Holds, p_Blocks⟩⟩
end Go.Sim
end
section
open Go.Sim
attribute [local simp ↓] kC_skip kC_ret kC_exit kC_seq kC_block kC_reg kC_cond kC_condc sqK blK lpK kO_nil kO_O kO_E kO_OG kO_EG grd_b grd_t tst_b brn_true brn_false brn_not chk_T b_mov b_pick b_alloc b_box b_load b_store b_bin b_un b_eqv b_faddr b_field b_iaddr b_sl b_len b_app b_call b_call1 b_callR b_ext bo_some bo_none bo2_some bo2_none bo_iaddr bo_addS bo_quo bo_rem bo_bnd bo_bnd0 ld_q0 ld_qw ld_p subP0 subPw bo_moveP bo_moveQ bo_lenl bo_lens bo_lenr bo_add bo_sub bo_mul bo_eql bo_neq bo_lss bo_leq bo_gtr bo_geq bo_neg bo_not bo_eqS bo_neS grd_nb b_slS slSK_s extK_t ownL_l fin_ret fin_norm bo_res0 bo_rest bo_resc st_p stK_box b_callv callvK_f0 callvK_f1 mkf_b subPs ld_qs kC_regS0 kC_regS1 kC_regS2 kC_regS3 kC_regS4 kC_regS5 b_eqb eqbK_b
attribute [local simp] K_refl obj_0 obj_s get_c get_n drop_c drop_n set_c set_n fix_c fix_n rd IOp.adds nadds gh nid rgK rdS ghosts_c ghosts_n packed1 packed2 purT_b purT_i purT_s purT_a purT_lt purT_lf K_ss K_ns K_sn plains_n plains_c env_val env_ref purs_n purs_d put_0 put_s
section
namespace Go.Sim
set_option maxRecDepth 10000
set_option maxHeartbeats 2000000
def idxI {α : Type} (p : α → Bool) (l : List α) : Int := match l.findIdx? p with | some j => (j : Int) | none => -1
theorem rounds_find {α R : Type} (p : α → Bool) (r : Nat → Option R) (done : Unit → Option R) (step : Nat → Unit → α → (Unit → Option R) → Option R) (hs : ∀ i b x c, step i b x c = if p x = true then r i else c ()) : ∀ (i : Nat) (ls : List α), rounds step done i () ls = match ls.findIdx? p with | some j => r (i + j) | none => done ()
 | i, [] => by simp [rounds]
 | i, x :: l => by
  rw [rounds, hs, rounds_find p r done step hs (i + 1) l, List.findIdx?_cons]
  cases h : p x with
  | true => simp
  | false =>
   simp only [Bool.false_eq_true, if_false]
   cases l.findIdx? p with
   | none => simp
   | some j => simp; congr 1; omega
section
variable {α : Type}
theorem loopIdx (T : Tab) (g : Nat) (q : K) (dv : α → DV) (p : α → Bool) (c : PV) (cs : List PV) (H0 : Heap) (hH : Cl H0) (hc : ∀ r ∈ PV.refsL (c :: cs), r < H0.length) (l : List α) (hv : ∀ x ∈ l, T.ref g (.d (dv x) :: c :: cs) H0 = some (.d (.b (p x)), H0)) (s : Bool) (hn : l.length ≤ maxLen) {k : KC (PV × Heap)} {r : Nat → Option (PV × Heap)} {fr : Fr} {H : Heap}
  (hr : ∀ (j : Nat) fr J, fr.get 4 = .d (I j) → ghosts fr = [] → k .ret fr (H0 ++ J) = r j)
  (h0 : gc [0, 1, 7, 8] H0.length ⟨fr, H⟩ = ⟨[(8, .d (I 0)), (7, .d (I l.length)), (1, .f g (c :: cs)), (0, .d (.l q (l.map dv) s))], H0⟩) :
  kC T.env H0.length fr H (.h (.loop [0, 1, 7, 8] (LidxG q), k)) = match l.findIdx? p with | some j => r j | none => k (.exit 0) [(9, .d (.b false)), (8, .d (I l.length)), (7, .d (I l.length)), (1, .f g (c :: cs)), (0, .d (.l q (l.map dv) s))] H0 := by
 rw [loop_rounds l (fun i _ => ⟨[(8, .d (I i)), (7, .d (I l.length)), (1, .f g (c :: cs)), (0, .d (.l q (l.map dv) s))], H0⟩) (fun _ _ => True) (fun i _ x c => if p x = true then r i else c ()) (fun _ => k (.exit 0) [(9, .d (.b false)), (8, .d (I l.length)), (7, .d (I l.length)), (1, .f g (c :: cs)), (0, .d (.l q (l.map dv) s))] H0) ?_ ?_ h0 trivial]
 ·rw [rounds_find p r _ _ (fun _ _ _ _ => rfl)]
  simp only [Nat.zero_add]
 ·intro B _ _ _
  simp [LidxG]
 ·intro B _ i _ hi _ cc hcc
  have hm : maxLen = 9223372036854775807 := rfl
  have h1 : (i : Int) < l.length := by omega
  have h3 : IntKind.i64.wrap ((i : Int) + 1) = (i : Int) + 1 := wrI (by omega) (by omega)
  have he := hv l[i] (List.getElem_mem hi)
  simp [LidxG, h1, hi, he]
  repeat' (refine brn_split (fun h => ?_) (fun h => ?_) <;> (try simp at h) <;> (try simp [h, h3]))
  ·simpa using hr i _ [] (by simp [Fr.get]) (by simp [ghosts, gh])
  ·refine hcc () _ _ trivial ?_
   rw [gc_low0 _ hH (by simpa [frRefs, Fr.keep, PV.refs, PV.refsL, gh] using hc)]
   simp [Fr.keep, gh]
theorem refIdx (T : Tab) {n : Nat} {q : K} (hF : T.F n = some (FidxG q)) (g : Nat) (dv : α → DV) (p : α → Bool) (c : PV) (cs : List PV) (H0 : Heap) (hH : Cl H0) (hc : ∀ r ∈ PV.refsL (c :: cs), r < H0.length) (l : List α) (hv : ∀ x ∈ l, T.ref g (.d (dv x) :: c :: cs) H0 = some (.d (.b (p x)), H0)) (s : Bool) (hn : l.length ≤ maxLen) :
  T.ref n [.d (.l q (l.map dv) s), .f g (c :: cs)] H0 = some (.d (I (idxI p l)), H0) := by
 rw [ref_k T hF rfl]
 have lp := fun k r fr H => @loopIdx α T g q dv p c cs H0 hH hc l hv s hn k r fr H
 simp [FidxG, Fr.ofArgs]
 refine (lp _ (fun j => some (.d (I j), H0)) _ _ ?_ ?_).trans ?_
 ·intro j fr J h1 h2
  simp [h1, h2, finR_ret, gcVd hH]
 ·rw [gc_low0 _ hH (by simpa [frRefs, Fr.keep, PV.refs, PV.refsL, gh] using hc)]
  simp [Fr.keep, gh]
 ·unfold idxI
  cases l.findIdx? p with
  | some j => rfl
  | none => simp [finR_ret, gcVd0 hH]
end
end Go.Sim
end
end
section
namespace Go.Sim
def tabU : PT :=
 (.bin 919 F919 (.bin 634 F634 (.bin 24 F24 (.bin 18 F18 (.bin 16 F16 (.bin 12 F12 .nil .nil) .nil) (.bin 19 F19 .nil .nil)) (.bin 59 F59 (.bin 50 F50 (.bin 30 F30 .nil .nil) .nil) (.bin 603 F603 .nil .nil))) (.bin 720 F720 (.bin 716 F716 (.bin 715 F715 (.bin 683 F683 .nil .nil) .nil) (.bin 719 F719 .nil .nil)) (.bin 804 F804 (.bin 803 F803 .nil .nil) (.bin 918 F918 .nil .nil)))) (.bin 1032 F1032 (.bin 1025 F1025 (.bin 1022 F1022 (.bin 950 F950 (.bin 949 F949 .nil .nil) .nil) (.bin 1023 F1023 .nil .nil)) (.bin 1028 F1028 (.bin 1027 F1027 (.bin 1026 F1026 .nil .nil) .nil) (.bin 1029 F1029 .nil .nil))) (.bin 1090 F1090 (.bin 1044 F1044 (.bin 1043 F1043 (.bin 1034 F1034 .nil .nil) .nil) (.bin 1085 F1085 .nil .nil)) (.bin 1095 F1095 (.bin 1094 F1094 .nil .nil) (.bin 1096 F1096 .nil .nil)))))
end Go.Sim
end
section
open Go.Sim
attribute [local simp ↓] kC_skip kC_ret kC_exit kC_seq kC_block kC_reg kC_cond kC_condc sqK blK lpK kO_nil kO_O kO_E kO_OG kO_EG grd_b grd_t tst_b brn_true brn_false brn_not chk_T b_mov b_pick b_alloc b_box b_load b_store b_bin b_un b_eqv b_faddr b_field b_iaddr b_sl b_len b_app b_call b_call1 b_callR b_ext bo_some bo_none bo2_some bo2_none bo_iaddr bo_addS bo_quo bo_rem bo_bnd bo_bnd0 ld_q0 ld_qw ld_p subP0 subPw bo_moveP bo_moveQ bo_lenl bo_lens bo_lenr bo_add bo_sub bo_mul bo_eql bo_neq bo_lss bo_leq bo_gtr bo_geq bo_neg bo_not bo_eqS bo_neS grd_nb b_slS slSK_s extK_t ownL_l fin_ret fin_norm bo_res0 bo_rest bo_resc st_p stK_box b_callv callvK_f0 callvK_f1 mkf_b subPs ld_qs kC_regS0 kC_regS1 kC_regS2 kC_regS3 kC_regS4 kC_regS5 b_eqb eqbK_b b_agg0
attribute [local simp] K_refl obj_0 obj_s get_c get_n drop_c drop_n set_c set_n fix_c fix_n rd IOp.adds nadds gh nid rgK rdS ghosts_c ghosts_n packed1 packed2 purT_b purT_i purT_s purT_a purT_lt purT_lf K_ss K_ns K_sn plains_n plains_c env_val env_ref purs_n purs_d put_0 put_s fits_i fits_b fits_s fits_l lt0_nat fits_a purT_t
section
namespace Go.Sim
set_option maxRecDepth 10000
set_option maxHeartbeats 4000000
def AAccount.zero : AAccount := ⟨0, 0, 0, 0, [], [], []⟩
def AInterest.zero : AInterest := ⟨⟨[], true⟩, false, 0, 0, false⟩
def AProduct.zero : AProduct := ⟨[], [], [], 0, 0, 0, 0, AInterest.zero, AInterest.zero, ⟨[], true⟩, ⟨[], true⟩⟩
def pAcc (id : Int) (a : AAccount) : Bool := a.Id == id
def findA (b : ABooks) (id : Int) : Option AAccount := (b.Accounts.l.findIdx? (pAcc id)).bind fun j => b.Accounts.l[j]?
abbrev HU (T : Tab) : Prop := ∀ n F, tabU.get n = some F → T.F n = some F
theorem ref19 (T : Tab) (hT : HU T) (a : AAccount) (b : ABooks) (id : Int) : T.ref 19 [.d a.dv, .p 1 0 0] [some (.box (K1 22) (.d b.dv)), some (.box K0 (.d (I id)))] = some (.d (.b (pAcc id a)), [some (.box (K1 22) (.d b.dv)), some (.box K0 (.d (I id)))]) := by
 rw [ref_k T (hT 19 F19 rfl) rfl]
 have hH := Cl_b2 (K1 22) K0 b.dv (I id)
 simp [F19, Fr.ofArgs, finR_ret, pAcc]
 exact (gcVd hH [some (.box (K1 7) (.d a.dv))] _)
theorem val16 (T : Tab) (hT : HU T) (b : ABooks) (id : Int) (hb : b.ok) : T.val 16 [b.dv, I id] = some (.d (I (idxI (pAcc id) b.Accounts.l)), false) := by
 rw [val_k T (hT 16 F16 rfl) rfl]
 have e := refIdx T (hT 18 F18 rfl) 19 AAccount.dv (pAcc id) (.p 1 0 0) [] [some (.box (K1 22) (.d b.dv)), some (.box K0 (.d (I id)))] (Cl_b2 _ _ _ _) (by simp [PV.refs, PV.refsL]) b.Accounts.l (fun a _ => ref19 T hT a b id) b.Accounts.t (hb.2.2.2.2.2.1).1
 simp [F16, Fr.ofArgs, e]
theorem val12 (T : Tab) (hT : HU T) (b : ABooks) (id : Int) (hb : b.ok) : T.val 12 [b.dv, I id] = some (.t [.d ((findA b id).getD .zero).dv, .d (.b (findA b id).isSome)], false) := by
 rw [val_k T (hT 12 F12 rfl) rfl]
 have e := val16 T hT b id hb
 unfold idxI at e
 unfold findA
 cases hf : b.Accounts.l.findIdx? (pAcc id) with
 | none =>
  rw [hf] at e
  simp [F12, Fr.ofArgs, e]
  try rfl
 | some j =>
  rw [hf] at e
  have hj : j < b.Accounts.l.length := (List.findIdx?_eq_some_iff_findIdx_eq.1 hf).1
  simp [F12, Fr.ofArgs, e, hj]
  try rfl
end Go.Sim
end
section
namespace Go.Sim
set_option maxRecDepth 10000
set_option maxHeartbeats 4000000
def foldN {α β : Type} (f : Nat → β → α → β) : Nat → β → List α → β
  | _, b, [] => b
  | i, b, x :: r => foldN f (i + 1) (f i b x) r
theorem rounds_fold {α β R : Type} (f : Nat → β → α → β) (done : β → Option R) (step : Nat → β → α → (β → Option R) → Option R) (hs : ∀ i b x c, step i b x c = c (f i b x)) : ∀ (i : Nat) (b : β) (ls : List α), rounds step done i b ls = done (foldN f i b ls)
  | i, b, [] => rfl
  | i, b, x :: l => by rw [rounds, hs, foldN, rounds_fold f done step hs (i + 1)]
def frm (l : List AProduct) (b : Int) : Int := match l[b.toNat]? with | some p => p.From | none => 0
end Go.Sim
end
section
namespace Go.Sim
set_option maxRecDepth 10000
set_option maxHeartbeats 4000000
def w64 (n : Int) : Int := IntKind.i64.wrap n
end Go.Sim
end
section
namespace Go.Sim
set_option maxRecDepth 10000
set_option maxHeartbeats 4000000
end Go.Sim
end
end
section
open Go.Sim
attribute [local simp ↓] kC_skip kC_ret kC_exit kC_seq kC_block kC_reg kC_cond kC_condc sqK blK lpK kO_nil kO_O kO_E kO_OG kO_EG grd_b grd_t tst_b brn_true brn_false brn_not chk_T b_mov b_pick b_alloc b_box b_load b_store b_bin b_un b_eqv b_faddr b_field b_iaddr b_sl b_len b_app b_call b_call1 b_callR b_ext bo_some bo_none bo2_some bo2_none bo_iaddr bo_addS bo_quo bo_rem bo_bnd bo_bnd0 ld_q0 ld_qw ld_p subP0 subPw bo_moveP bo_moveQ bo_lenl bo_lens bo_lenr bo_add bo_sub bo_mul bo_eql bo_neq bo_lss bo_leq bo_gtr bo_geq bo_neg bo_not bo_eqS bo_neS grd_nb b_slS slSK_s extK_t ownL_l fin_ret fin_norm bo_res0 bo_rest bo_resc st_p stK_box b_callv callvK_f0 callvK_f1 mkf_b subPs ld_qs kC_regS0 kC_regS1 kC_regS2 kC_regS3 kC_regS4 kC_regS5 b_eqb eqbK_b b_agg0 b_bsl0 b_bsl1 app_l app_r appE_n appE_r bo_lenR b_mkif mkifK_d b_tas tasK_i
attribute [local simp] K_refl obj_0 obj_s get_c get_n drop_c drop_n set_c set_n fix_c fix_n rd IOp.adds nadds gh nid rgK rdS ghosts_c ghosts_n packed1 packed2 purT_b purT_i purT_s purT_a purT_lt purT_lf K_ss K_ns K_sn plains_n plains_c env_val env_ref purs_n purs_d put_0 put_s fits_i fits_b fits_s fits_l lt0_nat fits_a purT_t pur_dv frz_n purT_r purT_f
section
namespace Go.Sim
set_option maxRecDepth 10000
set_option maxHeartbeats 4000000
end Go.Sim
end
section
namespace Go.Sim
set_option maxRecDepth 10000
set_option maxHeartbeats 4000000
theorem lp683 (T : Tab) (b : ABooks) (id : Int) (hn : b.Accounts.l.length ≤ maxLen) {k : KC (PV × Bool)} {r : Nat → Option (PV × Bool)} {fr : Fr} {H : Heap}
  (hr : ∀ (j : Nat) (hj : j < b.Accounts.l.length) fr, fr.get 4 = .p 0 0 0 → fr.get 5 = .d (.b true) → ghosts fr = [] → k .ret fr [some (.box (K1 7) (.d b.Accounts.l[j].dv)), some (.box (K1 22) (.d b.dv))] = r j)
  (h0 : gc [1, 2, 4, 6] 0 ⟨fr, H⟩ = ⟨[(6, .d (I 0)), (4, .p 0 0 0), (2, .p 1 0 0), (1, .d (I id))], [some (.box (K1 7) (.d AAccount.zero.dv)), some (.box (K1 22) (.d b.dv))]⟩) :
  kC T.env 0 fr H (.h (.loop [1, 2, 4, 6] L683_0, k)) = match b.Accounts.l.findIdx? (pAcc id) with | some j => r j | none => k (.exit 0) [(11, .d (.b false)), (6, .d (I b.Accounts.l.length)), (4, .p 0 0 0), (2, .p 1 0 0), (1, .d (I id))] [some (.box (K1 7) (.d AAccount.zero.dv)), some (.box (K1 22) (.d b.dv))] := by
 have hm : maxLen = 9223372036854775807 := rfl
 rw [loop_rounds b.Accounts.l (fun i _ => ⟨[(6, .d (I i)), (4, .p 0 0 0), (2, .p 1 0 0), (1, .d (I id))], [some (.box (K1 7) (.d AAccount.zero.dv)), some (.box (K1 22) (.d b.dv))]⟩) (fun _ _ => True) (fun i _ x c => if pAcc id x = true then r i else c ()) (fun _ => k (.exit 0) [(11, .d (.b false)), (6, .d (I b.Accounts.l.length)), (4, .p 0 0 0), (2, .p 1 0 0), (1, .d (I id))] [some (.box (K1 7) (.d AAccount.zero.dv)), some (.box (K1 22) (.d b.dv))]) ?_ ?_ h0 trivial]
 ·rw [rounds_find (pAcc id) r _ _ (fun _ _ _ _ => rfl)]
  simp only [Nat.zero_add]
  try rfl
 ·intro B _ _ _
  simp [L683_0]
 ·intro B _ i _ hi _ c hc
  have h1 : (i : Int) < b.Accounts.l.length := by omega
  have h3 : IntKind.i64.wrap ((i : Int) + 1) = (i : Int) + 1 := wrI (by omega) (by omega)
  simp [L683_0, h1, hi]
  repeat' (refine brn_split (fun h => ?_) (fun h => ?_) <;> (try simp at h) <;> (try simp [h1, hi, h3]))
  ·rw [if_pos (by simp [pAcc, *])]; exact hr i hi _ (by simp [Fr.get]) (by simp [Fr.get]) (by simp [ghosts, gh])
  ·rw [if_neg (by simp [pAcc, *])]; exact hc () _ _ trivial (by simp [gc, Fr.keep, reach, frRefs, heapRefs, PV.refs, place, gcH, orefs, Obj.refs, PV.ren, Obj.ren, Heap.obj, Fr.ren, gh, List.idxOf?_cons])
theorem val683 (T : Tab) (hT : HU T) (b : ABooks) (id : Int) (hb : b.ok) : T.val 683 [b.dv, I id] = some (.t [.d ((findA b id).getD .zero).dv, .d (.b (findA b id).isSome)], false) := by
 rw [val_k T (hT 683 F683 rfl) rfl]
 have lp := fun k r fr H => @lp683 T b id (hb.2.2.2.2.2.1).1 k r fr H
 simp [F683, Fr.ofArgs]
 refine (lp _ (fun j => some (.t [.d ((b.Accounts.l[j]?).getD .zero).dv, .d (.b true)], false)) _ _ ?_ (by simp [gc, Fr.keep, reach, frRefs, heapRefs, PV.refs, place, gcH, orefs, Obj.refs, PV.ren, Obj.ren, Heap.obj, Fr.ren, gh, List.idxOf?_cons, AAccount.zero, AAccount.dv])).trans ?_
 ·intro j hj fr h4 h5 hg
  have he : b.Accounts.l[j]? = some b.Accounts.l[j] := List.getElem?_eq_getElem hj
  simp [h4, h5, hg, fin_ret, he]
 ·unfold findA
  cases hf : b.Accounts.l.findIdx? (pAcc id) with
  | none =>
   simp
   try rfl
  | some j =>
   have hj : j < b.Accounts.l.length := (List.findIdx?_eq_some_iff_findIdx_eq.1 hf).1
   have he : b.Accounts.l[j]? = some b.Accounts.l[j] := List.getElem?_eq_getElem hj
   simp [he]
end Go.Sim
end
section
namespace Go.Sim
set_option maxRecDepth 10000
set_option maxHeartbeats 4000000
end Go.Sim
end
end
section
open Go.Sim
attribute [local simp ↓] kC_skip kC_ret kC_exit kC_seq kC_block kC_reg kC_cond kC_condc sqK blK lpK kO_nil kO_O kO_E kO_OG kO_EG grd_b grd_t tst_b brn_true brn_false brn_not chk_T b_mov b_pick b_alloc b_box b_load b_store b_bin b_un b_eqv b_faddr b_field b_iaddr b_sl b_len b_app b_call b_call1 b_callR b_ext bo_some bo_none bo2_some bo2_none bo_iaddr bo_addS bo_quo bo_rem bo_bnd bo_bnd0 ld_q0 ld_qw ld_p subP0 subPw bo_moveP bo_moveQ bo_lenl bo_lens bo_lenr bo_add bo_sub bo_mul bo_eql bo_neq bo_lss bo_leq bo_gtr bo_geq bo_neg bo_not bo_eqS bo_neS grd_nb b_slS slSK_s extK_t ownL_l fin_ret fin_norm bo_res0 bo_rest bo_resc st_p stK_box b_callv callvK_f0 callvK_f1 mkf_b subPs ld_qs kC_regS0 kC_regS1 kC_regS2 kC_regS3 kC_regS4 kC_regS5 b_eqb eqbK_b b_agg0 b_bsl0 b_bsl1 app_l app_r appE_n appE_r bo_lenR b_mkif mkifK_d b_tas tasK_i b_mm2 bo_mm2
attribute [local simp] K_refl obj_0 obj_s get_c get_n drop_c drop_n set_c set_n fix_c fix_n rd IOp.adds nadds gh nid rgK rdS ghosts_c ghosts_n packed1 packed2 purT_b purT_i purT_s purT_a purT_lt purT_lf K_ss K_ns K_sn plains_n plains_c env_val env_ref purs_n purs_d put_0 put_s fits_i fits_b fits_s fits_l lt0_nat fits_a purT_t pur_dv frz_n purT_r purT_f
section
namespace Go.Sim
set_option maxRecDepth 10000
set_option maxHeartbeats 4000000
theorem bg_lo {y : Int} (h : 2000 ≤ y) (h2 : y ≤ 2200) : 0 ≤ bgI y ∧ bgI y ≤ 73049 := by
 unfold bgI
 split <;> omega
theorem cm_lo (y : Int) : ∀ m : Nat, m ≤ 12 → 0 ≤ cmI y m ∧ cmI y m ≤ 31 * m
 | 0, _ => ⟨Int.le_refl _, Int.le_refl _⟩
 | m + 1, h => by
  have := cm_lo y m (by omega)
  have := lnI_pos (y := y) (m := 1 + m) (by omega) (by omega)
  simp only [cmI]; omega
theorem lp933_0 (T : Tab) (hT : HV T) (y d : Int) (m : Nat) (hm : m < 12) (hy : 2000 ≤ y) (hy2 : y ≤ 2200) (hd : 0 ≤ d) (hd2 : d < 1000) {k : KC (PV × Bool)} {fr : Fr} {H : Heap} (h0 : gc [0, 1, 8, 9] 0 ⟨fr, H⟩ = ⟨[(9, .d (I 1)), (8, .d (I (bgI y + d))), (1, .d (I (1 + m))), (0, .d (I y))], []⟩) :
  kC T.env 0 fr H (.h (.loop [0, 1, 8, 9] L933_0, k)) = k (.exit 0) [(42, .d (.b false)), (9, .d (I (1 + m))), (8, .d (I (bgI y + d + cmI y m))), (1, .d (I (1 + m))), (0, .d (I y))] [] := by
 have hb := bg_lo hy hy2
 refine loop_iter (fun s : Int × Int => ⟨[(9, .d (I s.1)), (8, .d (I s.2)), (1, .d (I (1 + m))), (0, .d (I y))], []⟩) (fun i => (1 + (i : Int), bgI y + d + cmI y i)) m ?_ ?_ (by rw [h0]; simp [cmI])
 ·intro B _
  simp [L933_0]
 ·intro B _ i hi c hc
  have e := val72 T hT y (1 + i) (by omega) (by omega)
  have g : (1 : Int) + i < 1 + m := by omega
  have g2 : ((i : Int) < m) := by omega
  have w : IntKind.i64.wrap (1 + (i : Int) + 1) = 1 + (i : Int) + 1 := wrI (by omega) (by omega)
  have w2 : IntKind.i64.wrap (bgI y + d + cmI y i + lnI y (1 + i)) = bgI y + d + cmI y (i + 1) := by
   have := lnI_pos (y := y) (m := 1 + i) (by omega) (by omega)
   have := cm_lo y i (by omega)
   rw [wrI (by omega) (by omega)]; simp only [cmI]; omega
  simp [L933_0, w, e, g, w2]
  exact hc _ _ (by simp [gc, Fr.keep, reach, frRefs, heapRefs, PV.refs, gcH, PV.ren, Obj.ren, Heap.obj, Fr.ren, gh]; omega)
theorem val933_ok (T : Tab) (hT : HV T) (y d : Int) (m : Nat) (hm : m < 12) (hy : 2000 ≤ y) (hy2 : y < 2200) (hd : 1 ≤ d) (hd2 : d ≤ lnI y (1 + m)) : T.val 933 [I y, I (1 + m), I d] = some (.t [.d (I (bgI y + (d - 1) + cmI y m)), .d (I 0)], false) := by
 rw [val_k T (hT 933 F933 rfl) rfl]
 have l := lnI_pos (y := y) (m := 1 + m) (by omega) (by omega)
 have hb := bg_lo hy (by omega)
 have g1 : ¬ y < 2000 := by omega
 have g2 : ¬ 2199 < y := by omega
 have g3 : ¬ (1 + (m : Int) < 1) := by omega
 have g4 : ¬ (12 < 1 + (m : Int)) := by omega
 have g5 : ¬ d < 1 := by omega
 have g6 : ¬ lnI y (1 + m) < d := by omega
 have e := val72 T hT y (1 + m) (by omega) (by omega)
 have e2 := val71 T hT y hy (by omega)
 have w1 : IntKind.i64.wrap (bgI y + d) = bgI y + d := wrI (by omega) (by omega)
 have w2 : IntKind.i64.wrap (bgI y + d - 1) = bgI y + (d - 1) := by rw [wrI (by omega) (by omega)]; omega
 have lp := fun k fr H => @lp933_0 T hT y (d - 1) m hm hy (by omega) (by omega) (by omega) k fr H
 simp [F933, Fr.ofArgs, g1, g2, g3, g4, g5, g6, e, e2, w1, w2]
 refine (lp _ _ _ (by simp [gc, Fr.keep, reach, frRefs, heapRefs, PV.refs, gcH, PV.ren, Obj.ren, Heap.obj, Fr.ren, gh])).trans ?_
 simp
theorem val879 (T : Tab) (hT : HV T) (d : Int) (n m : Nat) (h : Civ d n m) : T.val 879 [I d] = some (.d (I (bgI (2000 + n) + cmI (2000 + n) m)), false) := by
 rw [val_k T (hT 879 F879 rfl) rfl]
 have e := val65 T hT d n m h
 obtain ⟨h1, h2, h3, h4, h5, h6⟩ := h
 have l := lnI_pos (y := 2000 + n) (m := 1 + m) (by omega) (by omega)
 have e2 := val933_ok T hT (2000 + n) 1 m h4 (by omega) (by omega) (by omega) (by omega)
 simp [F879, Fr.ofArgs, e, e2]
theorem val1033 (T : Tab) (hT : HV T) (d : Int) (n m : Nat) (h : Civ d n m) : T.val 1033 [I d] = some (.d (I (bgI (2000 + n) + cmI (2000 + n) m)), false) := by
 rw [val_k T (hT 1033 F1033 rfl) rfl]
 have e := val1045 T hT d n m h
 obtain ⟨hp, hp2⟩ := civ_pos h
 obtain ⟨h1, h2, h3, h4, h5, h6⟩ := h
 have hb := bg_lo (y := 2000 + n) (by omega) (by omega)
 have hc := cm_lo (2000 + n) m (by omega)
 have w : IntKind.i64.wrap (d - (d - bgI (2000 + n) - cmI (2000 + n) m + 1)) = bgI (2000 + n) + cmI (2000 + n) m - 1 := by rw [wrI (by omega) (by omega)]; omega
 have w2 : IntKind.i64.wrap (bgI (2000 + n) + cmI (2000 + n) m - 1 + 1) = bgI (2000 + n) + cmI (2000 + n) m := by rw [wrI (by omega) (by omega)]; omega
 have w3 : IntKind.i64.wrap (bgI (2000 + n) + cmI (2000 + n) m) = bgI (2000 + n) + cmI (2000 + n) m := wrI (by omega) (by omega)
 simp [F1033, Fr.ofArgs, e, w, w3]
noncomputable def mst (d : Int) : Int := if h : vday d = true then bgI (2000 + (Classical.choose (civ_ex h) : Nat)) + cmI (2000 + (Classical.choose (civ_ex h) : Nat)) (Classical.choose (Classical.choose_spec (civ_ex h))) else 0
theorem mst_civ {d : Int} (h : vday d = true) : ∃ n m, Civ d n m ∧ mst d = bgI (2000 + n) + cmI (2000 + n) m := by
 refine ⟨_, _, Classical.choose_spec (Classical.choose_spec (civ_ex h)), ?_⟩
 simp only [mst, h, dite_true]
theorem val879' (T : Tab) (hT : HV T) (d : Int) (h : vday d = true) : T.val 879 [I d] = some (.d (I (mst d)), false) := by
 obtain ⟨n, m, h1, e⟩ := mst_civ h
 rw [e]; exact val879 T hT d n m h1
theorem val1033' (T : Tab) (hT : HV T) (d : Int) (h : vday d = true) : T.val 1033 [I d] = some (.d (I (mst d)), false) := by
 obtain ⟨n, m, h1, e⟩ := mst_civ h
 rw [e]; exact val1033 T hT d n m h1
def actA (b : ABooks) (id day : Int) : Bool := match findA b id with
 | none => false
 | some a => decide (a.Opened ≤ day) && ((a.Closed == 0) || decide (day < a.Closed))
theorem val39 (T : Tab) (hT : HV T) (hU : HU T) (b : ABooks) (id day : Int) (hb : b.ok) : T.val 39 [b.dv, I id, I day] = some (.d (.b (actA b id day)), false) := by
 rw [val_k T (hT 39 F39 rfl) rfl]
 have e := val12 T hU b id hb
 unfold actA
 cases hf : findA b id with
 | none =>
  rw [hf] at e
  simp only [Option.getD_none, Option.isSome_none] at e
  simp [F39, Fr.ofArgs, e]
 | some a =>
  rw [hf] at e
  simp only [Option.getD_some, Option.isSome_some] at e
  simp [F39, Fr.ofArgs, e]
  repeat' (refine brn_split (fun h => ?_) (fun h => ?_) <;> (try simp at h) <;> (try simp [h]))
  all_goals (first | (simp_all; done) | omega)
theorem val684 (T : Tab) (hT : HV T) (hU : HU T) (b : ABooks) (id day : Int) (hb : b.ok) : T.val 684 [b.dv, I id, I day] = some (.d (.b (actA b id day)), false) := by
 rw [val_k T (hT 684 F684 rfl) rfl]
 have e := val683 T hU b id hb
 unfold actA
 cases hf : findA b id with
 | none =>
  rw [hf] at e
  simp only [Option.getD_none, Option.isSome_none] at e
  simp [F684, Fr.ofArgs, e]
 | some a =>
  rw [hf] at e
  simp only [Option.getD_some, Option.isSome_some] at e
  simp [F684, Fr.ofArgs, e]
  repeat' (refine brn_split (fun h => ?_) (fun h => ?_) <;> (try simp at h) <;> (try simp [h]))
  all_goals (first | (simp_all; done) | omega)
end Go.Sim
end
section
namespace Go.Sim
set_option maxRecDepth 10000
set_option maxHeartbeats 4000000
def fMov (acc : Int) (_ : Nat) (n : Int) (x : ALeg) : Int := if (x.Account == acc) = true then w64 (n - x.Amount) else n
def movedE (acc : Int) (e : AEntry) : Int := foldN (fMov acc) 0 0 e.Legs.l
def fOfR (acc : Int) (_ : Nat) (n : Int) (e : AEntry) : Int := w64 (n + movedE acc e)
def ofR (j : List AEntry) (acc : Int) : Int := foldN (fOfR acc) 0 0 j
theorem lp1034 (T : Tab) (e : AEntry) (acc : Int) (hn : e.Legs.l.length ≤ maxLen) {k : KC (PV × Bool)} {fr : Fr} {H : Heap} (h0 : gc [1, 2, 5, 6] 0 ⟨fr, H⟩ = ⟨[(6, (.d (I (0 : Int)))), (5, (.d (I 0))), (2, (.p 0 0 0)), (1, (.d (I acc)))], [some (.box (K1 10) (.d e.dv))]⟩) :
    kC T.env 0 fr H (.h (.loop [1, 2, 5, 6] L1034_0, k)) = k (.exit 0) [(11, .d (.b false)), (6, (.d (I (e.Legs.l.length : Int)))), (5, (.d (I (foldN (fMov acc) 0 0 e.Legs.l)))), (2, (.p 0 0 0)), (1, (.d (I acc)))] [some (.box (K1 10) (.d e.dv))] := by
  rw [loop_rounds e.Legs.l (fun i (b : Int) => ⟨[(6, (.d (I (i : Int)))), (5, (.d (I b))), (2, (.p 0 0 0)), (1, (.d (I acc)))], [some (.box (K1 10) (.d e.dv))]⟩) (fun _ _ => True) (fun i b x c => c (fMov acc i b x)) (fun b => k (.exit 0) [(11, .d (.b false)), (6, (.d (I (e.Legs.l.length : Int)))), (5, (.d (I b))), (2, (.p 0 0 0)), (1, (.d (I acc)))] [some (.box (K1 10) (.d e.dv))]) ?_ ?_ h0 trivial]
  · rw [rounds_fold (fMov acc) _ _ (fun _ _ _ _ => rfl)]
  · intro B _ b _
    simp [L1034_0]
  · intro B _ i b hi _ c hc
    have hm : maxLen = 9223372036854775807 := rfl
    have h1 : (i : Int) < e.Legs.l.length := by omega
    have h3 : IntKind.i64.wrap ((i : Int) + 1) = (i : Int) + 1 := wrI (by omega) (by omega)
    simp [L1034_0, h1, hi]
    repeat' (refine brn_split (fun h => ?_) (fun h => ?_) <;> (try simp at h) <;> (try simp [h1, hi, h3]))
    all_goals first
      | (have e : (fMov acc) i b e.Legs.l[i] = w64 (b - e.Legs.l[i].Amount) := by
           simp [fMov, w64, *]
           try (intros; omega)
         rw [e]; exact hc _ _ _ trivial (by simp [gc, Fr.keep, reach, frRefs, heapRefs, PV.refs, place, gcH, orefs, Obj.refs, PV.ren, Obj.ren, Heap.obj, Fr.ren, gh, List.idxOf?_cons]; try rfl))
      | (have e : (fMov acc) i b e.Legs.l[i] = b := by
           simp [fMov, *]
           try (intros; omega)
         rw [e]; exact hc _ _ _ trivial (by simp [gc, Fr.keep, reach, frRefs, heapRefs, PV.refs, place, gcH, orefs, Obj.refs, PV.ren, Obj.ren, Heap.obj, Fr.ren, gh, List.idxOf?_cons]; try rfl))
theorem val1034 (T : Tab) (hT : HU T) (e : AEntry) (acc : Int) (he : e.ok) : T.val 1034 [e.dv, I acc] = some (.d (I (movedE acc e)), false) := by
  rw [val_k T (hT 1034 F1034 rfl) rfl]
  simp [F1034, Fr.ofArgs]
  refine (lp1034 T e acc (he.2.2.2.2.2.2.2.2.1).1 (by simp [gc, Fr.keep, reach, frRefs, heapRefs, PV.refs, place, gcH, orefs, Obj.refs, PV.ren, Obj.ren, Heap.obj, Fr.ren, gh, List.idxOf?_cons])).trans ?_
  simp [movedE]
theorem lp1027 (T : Tab) (hT : HU T) (l : List AEntry) (t : Bool) (acc : Int) (hn : l.length ≤ maxLen) (ho : ∀ e ∈ l, e.ok) {k : KC (PV × Bool)} {fr : Fr} {H : Heap} (h0 : gc [0, 1, 5, 6] 0 ⟨fr, H⟩ = ⟨[(6, (.d (I (0 : Int)))), (5, (.d (I 0))), (1, (.d (I acc))), (0, (.d (.l (K1 10) (l.map AEntry.dv) t)))], []⟩) :
    kC T.env 0 fr H (.h (.loop [0, 1, 5, 6] L1027_0, k)) = k (.exit 0) [(10, .d (.b false)), (6, (.d (I (l.length : Int)))), (5, (.d (I (foldN (fOfR acc) 0 0 l)))), (1, (.d (I acc))), (0, (.d (.l (K1 10) (l.map AEntry.dv) t)))] [] := by
  rw [loop_rounds l (fun i (b : Int) => ⟨[(6, (.d (I (i : Int)))), (5, (.d (I b))), (1, (.d (I acc))), (0, (.d (.l (K1 10) (l.map AEntry.dv) t)))], []⟩) (fun _ _ => True) (fun i b x c => c (fOfR acc i b x)) (fun b => k (.exit 0) [(10, .d (.b false)), (6, (.d (I (l.length : Int)))), (5, (.d (I b))), (1, (.d (I acc))), (0, (.d (.l (K1 10) (l.map AEntry.dv) t)))] []) ?_ ?_ h0 trivial]
  · rw [rounds_fold (fOfR acc) _ _ (fun _ _ _ _ => rfl)]
  · intro B _ b _
    simp [L1027_0]
  · intro B _ i b hi _ c hc
    have hm : maxLen = 9223372036854775807 := rfl
    have h1 : (i : Int) < l.length := by omega
    have h3 : IntKind.i64.wrap ((i : Int) + 1) = (i : Int) + 1 := wrI (by omega) (by omega)
    have hv := val1034 T hT l[i] acc (ho _ (List.getElem_mem hi))
    simp [L1027_0, h1, hi, h3, hv]
    repeat' (refine brn_split (fun h => ?_) (fun h => ?_) <;> (try simp at h) <;> (try simp [h, h1, hi, h3, hv]))
    all_goals first
      | (have e : (fOfR acc) i b l[i] = w64 (b + movedE acc l[i]) := by
           simp [fOfR, *]
           try (intros; omega)
         rw [e]; exact hc _ _ _ trivial (by simp [gc, Fr.keep, reach, frRefs, heapRefs, PV.refs, gcH, PV.ren, Obj.ren, Heap.obj, Fr.ren, gh]; try rfl))
theorem val1027 (T : Tab) (hT : HU T) (l : List AEntry) (t : Bool) (acc : Int) (hn : l.length ≤ maxLen) (ho : ∀ e ∈ l, e.ok) : T.val 1027 [.l (K1 10) (l.map AEntry.dv) t, I acc] = some (.d (I (ofR l acc)), false) := by
  rw [val_k T (hT 1027 F1027 rfl) rfl]
  simp [F1027, Fr.ofArgs]
  refine (lp1027 T hT l t acc hn ho (by simp [gc, Fr.keep, reach, frRefs, heapRefs, PV.refs, gcH, PV.ren, Obj.ren, Heap.obj, Fr.ren, gh])).trans ?_
  simp [ofR]
end Go.Sim
end
section
namespace Go.Sim
set_option maxRecDepth 10000
set_option maxHeartbeats 4000000
end Go.Sim
end
end
section
namespace Go.Sim
def lsb {α : Type} (f : α → α → Bool) : List α → List α → Bool
 | [], [] => true
 | x :: xs, y :: ys => f x y && lsb f xs ys
 | _, _ => false
theorem lsb_refl {α : Type} {f : α → α → Bool} (h : ∀ x, f x x = true) : ∀ l, lsb f l l = true
 | [] => rfl
 | x :: l => by simp [lsb, h, lsb_refl h l]
def ibq (x y : Int) : Bool := x == y
theorem ibq_refl (x : Int) : ibq x x = true := by simp [ibq]
def sbq (x y : List UInt8) : Bool := x == y
theorem sbq_refl (x : List UInt8) : sbq x x = true := by simp [sbq]
def bbq (x y : Bool) : Bool := x == y
theorem bbq_refl (x : Bool) : bbq x x = true := by simp [bbq]
mutual
def deq : DV → DV → Bool
 | .b x, .b y => x == y
 | .i k n, .i k' m => decide (k = k') && decide (n = m)
 | .s x, .s y => x == y
 | .a cs, .a ds => deqL cs ds
 | .l _ es _, .l _ fs _ => deqL es fs
 | .np, .np => true
 | .nf, .nf => true
 | .ni, .ni => true
 | .nm, .nm => true
 | .ifc t v, .ifc t' w => Nat.beq t t' && deq v w
 | .tok n, .tok m => Nat.beq n m
 | _, _ => false
def deqL : List DV → List DV → Bool
 | [], [] => true
 | x :: xs, y :: ys => deq x y && deqL xs ys
 | _, _ => false
end
mutual
theorem deq_refl : ∀ x, deq x x = true
 | .b x => by simp [deq]
 | .i k n => by simp [deq]
 | .s x => by simp [deq]
 | .a cs => by simp [deq, deqL_refl cs]
 | .l k es t => by simp [deq, deqL_refl es]
 | .np => rfl
 | .nf => rfl
 | .ni => rfl
 | .nm => rfl
 | .ifc t v => by simp [deq, deq_refl v]
 | .tok n => by simp [deq]
theorem deqL_refl : ∀ x, deqL x x = true
 | [] => rfl
 | x :: xs => by simp [deqL, deq_refl x, deqL_refl xs]
end
def ACurrency.beq (x y : ACurrency) : Bool := sbq x.Code y.Code && ibq x.Digits y.Digits
theorem ACurrency.beq_refl (x : ACurrency) : ACurrency.beq x x = true := by
 simp only [ACurrency.beq, sbq_refl, ibq_refl, Bool.and_true]
def ACalendar.beq (x y : ACalendar) : Bool := sbq x.Name y.Name && lsb ibq x.Weekend.l y.Weekend.l && lsb ibq x.Holidays.l y.Holidays.l
theorem ACalendar.beq_refl (x : ACalendar) : ACalendar.beq x x = true := by
 simp only [ACalendar.beq, sbq_refl, lsb_refl ibq_refl, Bool.and_true]
def ATier.beq (x y : ATier) : Bool := ibq x.From y.From && ibq x.Ppm y.Ppm
theorem ATier.beq_refl (x : ATier) : ATier.beq x x = true := by
 simp only [ATier.beq, ibq_refl, Bool.and_true]
def AInterest.beq (x y : AInterest) : Bool := lsb ATier.beq x.Tiers.l y.Tiers.l && bbq x.Marginal y.Marginal && ibq x.Basis y.Basis && ibq x.Mode y.Mode && bbq x.Keep y.Keep
theorem AInterest.beq_refl (x : AInterest) : AInterest.beq x x = true := by
 simp only [AInterest.beq, lsb_refl ATier.beq_refl, bbq_refl, ibq_refl, Bool.and_true]
def AExpr.beq (x y : AExpr) : Bool := ibq x.Op y.Op && ibq x.N y.N && sbq x.S y.S && deqL x.Args.l y.Args.l
theorem AExpr.beq_refl (x : AExpr) : AExpr.beq x x = true := by
 simp only [AExpr.beq, ibq_refl, sbq_refl, deqL_refl, Bool.and_true]
def AFee.beq (x y : AFee) : Bool := sbq x.Name y.Name && ibq x.Event y.Event && AExpr.beq x.When y.When && AExpr.beq x.Amount y.Amount
theorem AFee.beq_refl (x : AFee) : AFee.beq x x = true := by
 simp only [AFee.beq, sbq_refl, ibq_refl, AExpr.beq_refl, Bool.and_true]
def ARule.beq (x y : ARule) : Bool := sbq x.Name y.Name && ibq x.Window y.Window && AExpr.beq x.Amount y.Amount
theorem ARule.beq_refl (x : ARule) : ARule.beq x x = true := by
 simp only [ARule.beq, sbq_refl, ibq_refl, AExpr.beq_refl, Bool.and_true]
def AProduct.beq (x y : AProduct) : Bool := sbq x.Name y.Name && sbq x.Currency y.Currency && sbq x.Calendar y.Calendar && ibq x.From y.From && ibq x.Every y.Every && ibq x.Overdraft y.Overdraft && ibq x.TaxPpm y.TaxPpm && AInterest.beq x.Credit y.Credit && AInterest.beq x.Debit y.Debit && lsb AFee.beq x.Fees.l y.Fees.l && lsb ARule.beq x.Rules.l y.Rules.l
theorem AProduct.beq_refl (x : AProduct) : AProduct.beq x x = true := by
 simp only [AProduct.beq, sbq_refl, ibq_refl, AInterest.beq_refl, lsb_refl AFee.beq_refl, lsb_refl ARule.beq_refl, Bool.and_true]
def AGl.beq (x y : AGl) : Bool := ibq x.Id y.Id && ibq x.Parent y.Parent && ibq x.Kind y.Kind && sbq x.Name y.Name
theorem AGl.beq_refl (x : AGl) : AGl.beq x x = true := by
 simp only [AGl.beq, ibq_refl, sbq_refl, Bool.and_true]
def ALeg.beq (x y : ALeg) : Bool := ibq x.Account y.Account && ibq x.Amount y.Amount && sbq x.Currency y.Currency
theorem ALeg.beq_refl (x : ALeg) : ALeg.beq x x = true := by
 simp only [ALeg.beq, ibq_refl, sbq_refl, Bool.and_true]
def AEntry.beq (x y : AEntry) : Bool := ibq x.Id y.Id && ibq x.Booked y.Booked && ibq x.Value y.Value && ibq x.Kind y.Kind && ibq x.Auth y.Auth && ibq x.Period y.Period && sbq x.Key y.Key && sbq x.Text y.Text && lsb ALeg.beq x.Legs.l y.Legs.l && ibq x.Chain y.Chain
theorem AEntry.beq_refl (x : AEntry) : AEntry.beq x x = true := by
 simp only [AEntry.beq, ibq_refl, sbq_refl, lsb_refl ALeg.beq_refl, Bool.and_true]
def AHold.beq (x y : AHold) : Bool := ibq x.Id y.Id && ibq x.Account y.Account && ibq x.Amount y.Amount && ibq x.From y.From && ibq x.To y.To && sbq x.Key y.Key
theorem AHold.beq_refl (x : AHold) : AHold.beq x x = true := by
 simp only [AHold.beq, ibq_refl, sbq_refl, Bool.and_true]
def ABlock.beq (x y : ABlock) : Bool := ibq x.Id y.Id && ibq x.Account y.Account && ibq x.Kind y.Kind && ibq x.Amount y.Amount && ibq x.From y.From && ibq x.To y.To && sbq x.Source y.Source
theorem ABlock.beq_refl (x : ABlock) : ABlock.beq x x = true := by
 simp only [ABlock.beq, ibq_refl, sbq_refl, Bool.and_true]
def AAccount.beq (x y : AAccount) : Bool := ibq x.Id y.Id && ibq x.Opened y.Opened && ibq x.Closed y.Closed && ibq x.Extra y.Extra && sbq x.Owner y.Owner && sbq x.Product y.Product && sbq x.Number y.Number
theorem AAccount.beq_refl (x : AAccount) : AAccount.beq x x = true := by
 simp only [AAccount.beq, ibq_refl, sbq_refl, Bool.and_true]
def APlan.beq (x y : APlan) : Bool := ibq x.Cash y.Cash && ibq x.Deposits y.Deposits && ibq x.InterestPaid y.InterestPaid && ibq x.InterestEarned y.InterestEarned && ibq x.FeeEarned y.FeeEarned && ibq x.Tax y.Tax && ibq x.Clearing y.Clearing && ibq x.Loans y.Loans && ibq x.LoanInterest y.LoanInterest && ibq x.Penalty y.Penalty && ibq x.Provision y.Provision && ibq x.ProvisionCost y.ProvisionCost && ibq x.Loss y.Loss && ibq x.Recovery y.Recovery
theorem APlan.beq_refl (x : APlan) : APlan.beq x x = true := by
 simp only [APlan.beq, ibq_refl, Bool.and_true]
def ABooks.beq (x y : ABooks) : Bool := lsb ACurrency.beq x.Currencies.l y.Currencies.l && lsb ACalendar.beq x.Calendars.l y.Calendars.l && lsb AGl.beq x.Chart.l y.Chart.l && APlan.beq x.Plan y.Plan && lsb AProduct.beq x.Products.l y.Products.l && lsb AAccount.beq x.Accounts.l y.Accounts.l && lsb AEntry.beq x.Journal.l y.Journal.l && lsb AHold.beq x.Holds.l y.Holds.l && lsb ABlock.beq x.Blocks.l y.Blocks.l
theorem ABooks.beq_refl (x : ABooks) : ABooks.beq x x = true := by
 simp only [ABooks.beq, lsb_refl ACurrency.beq_refl, lsb_refl ACalendar.beq_refl, lsb_refl AGl.beq_refl, APlan.beq_refl, lsb_refl AProduct.beq_refl, lsb_refl AAccount.beq_refl, lsb_refl AEntry.beq_refl, lsb_refl AHold.beq_refl, lsb_refl ABlock.beq_refl, Bool.and_true]
end Go.Sim
end
section
open Go.Sim
attribute [local simp ↓] kC_skip kC_ret kC_exit kC_seq kC_block kC_reg kC_cond kC_condc sqK blK lpK kO_nil kO_O kO_E kO_OG kO_EG grd_b grd_t tst_b brn_true brn_false brn_not chk_T b_mov b_pick b_alloc b_box b_load b_store b_bin b_un b_eqv b_faddr b_field b_iaddr b_sl b_len b_app b_call b_call1 b_callR b_ext bo_some bo_none bo2_some bo2_none bo_iaddr bo_addS bo_quo bo_rem bo_bnd bo_bnd0 ld_q0 ld_qw ld_p subP0 subPw bo_moveP bo_moveQ bo_lenl bo_lens bo_lenr bo_add bo_sub bo_mul bo_eql bo_neq bo_lss bo_leq bo_gtr bo_geq bo_neg bo_not bo_eqS bo_neS grd_nb b_slS slSK_s extK_t ownL_l fin_ret fin_norm bo_res0 bo_rest bo_resc st_p stK_box b_callv callvK_f0 callvK_f1 mkf_b subPs ld_qs kC_regS0 kC_regS1 kC_regS2 kC_regS3 kC_regS4 kC_regS5 b_eqb eqbK_b b_agg0 b_bsl0 b_bsl1 app_l app_r appE_n appE_r bo_lenR b_mkif mkifK_d b_tas tasK_i b_mm2 bo_mm2
attribute [local simp] K_refl obj_0 obj_s get_c get_n drop_c drop_n set_c set_n fix_c fix_n rd IOp.adds nadds gh nid rgK rdS ghosts_c ghosts_n packed1 packed2 purT_b purT_i purT_s purT_a purT_lt purT_lf K_ss K_ns K_sn plains_n plains_c env_val env_ref purs_n purs_d put_0 put_s fits_i fits_b fits_s fits_l lt0_nat fits_a purT_t pur_dv frz_n purT_r purT_f
section
namespace Go.Sim
theorem ax_of {e : DV} (h : XE e) : ∃ a : AExpr, e = a.dv ∧ a.ok := by
 cases h with
 | mk o n s a h1 h2 h3 h4 =>
  cases h4 with
  | mk es t h5 h6 => exact ⟨⟨o, n, s, ⟨es, t⟩⟩, rfl, h1, h2, h3, .mk es t h5 h6⟩
theorem axs_of {es : List DV} {t : Bool} (h : XL (.l (K1 4) es t)) : es.length ≤ maxLen ∧ ∃ l : List AExpr, es = l.map AExpr.dv ∧ ∀ a ∈ l, a.ok := by
 cases h with
 | mk _ _ h5 h6 => exact ⟨h5, list_of' fun e he => ax_of (h6 e he)⟩
theorem arg_lt {x a : AExpr} (h : a.dv ∈ x.Args.l) : SizeOf.sizeOf a.dv < SizeOf.sizeOf x.dv := by
 have h1 := List.sizeOf_lt_of_mem h
 have h2 : SizeOf.sizeOf x.Args.l < SizeOf.sizeOf x.dv := by
  simp only [AExpr.dv, DV.a.sizeOf_spec, List.cons.sizeOf_spec, DV.l.sizeOf_spec]
  omega
 omega
end Go.Sim
end
section
namespace Go.Sim
set_option maxRecDepth 10000
set_option maxHeartbeats 4000000
mutual
def cntD : DV → Int → Int
 | .a [_, _, _, .l _ es _], m => cntL es 1 m
 | _, _ => 1
def cntL : List DV → Int → Int → Int
 | [], n, _ => n
 | e :: es, n, m => if n ≤ m then cntL es (n + cntD e (m - n)) m else n
end
mutual
theorem cntD_le : ∀ (e : DV) (m : Int), 0 ≤ m → 1 ≤ cntD e m ∧ cntD e m ≤ m + 1
 | .a [_, _, _, .l _ es _], m, h => by
  unfold cntD
  exact cntL_le es 1 m (by omega) (by omega)
 | .a [], m, h => by unfold cntD; omega
 | .a [_], m, h => by unfold cntD; omega
 | .a [_, _], m, h => by unfold cntD; omega
 | .a [_, _, _], m, h => by unfold cntD; omega
 | .a (_ :: _ :: _ :: .b _ :: _), m, h => by unfold cntD; omega
 | .a (_ :: _ :: _ :: .i _ _ :: _), m, h => by unfold cntD; omega
 | .a (_ :: _ :: _ :: .s _ :: _), m, h => by unfold cntD; omega
 | .a (_ :: _ :: _ :: .a _ :: _), m, h => by unfold cntD; omega
 | .a (_ :: _ :: _ :: .np :: _), m, h => by unfold cntD; omega
 | .a (_ :: _ :: _ :: .nf :: _), m, h => by unfold cntD; omega
 | .a (_ :: _ :: _ :: .ni :: _), m, h => by unfold cntD; omega
 | .a (_ :: _ :: _ :: .nm :: _), m, h => by unfold cntD; omega
 | .a (_ :: _ :: _ :: .ifc _ _ :: _), m, h => by unfold cntD; omega
 | .a (_ :: _ :: _ :: .tok _ :: _), m, h => by unfold cntD; omega
 | .a (_ :: _ :: _ :: .l _ _ _ :: _ :: _), m, h => by unfold cntD; omega
 | .b _, m, h => by unfold cntD; omega
 | .i _ _, m, h => by unfold cntD; omega
 | .s _, m, h => by unfold cntD; omega
 | .l _ _ _, m, h => by unfold cntD; omega
 | .np, m, h => by unfold cntD; omega
 | .nf, m, h => by unfold cntD; omega
 | .ni, m, h => by unfold cntD; omega
 | .nm, m, h => by unfold cntD; omega
 | .ifc _ _, m, h => by unfold cntD; omega
 | .tok _, m, h => by unfold cntD; omega
theorem cntL_le : ∀ (es : List DV) (n m : Int), 1 ≤ n → n ≤ m + 1 → 1 ≤ cntL es n m ∧ cntL es n m ≤ m + 1
 | [], n, m, h1, h2 => ⟨h1, h2⟩
 | e :: es, n, m, h1, h2 => by
  unfold cntL
  split
  ·rename_i h
   have := cntD_le e (m - n) (by omega)
   exact cntL_le es _ m (by omega) (by omega)
  ·exact ⟨h1, h2⟩
end
theorem lp950 (T : Tab) (x : AExpr) (l : List AExpr) (hl : x.Args.l = l.map AExpr.dv) (m : Int) (hm0 : 0 ≤ m) (hm1 : m ≤ 1000) (hn : l.length ≤ maxLen) (hv : ∀ y ∈ l, ∀ m', 0 ≤ m' → m' ≤ 1000 → T.val 950 [y.dv, I m'] = some (.d (I (cntD y.dv m')), false)) {k : KC (PV × Bool)} {r : Int → Option (PV × Bool)} {fr : Fr} {H : Heap}
  (hk : ∀ (i : Nat) (n : Int), k (.exit 0) [(16, .d (.b false)), (6, .d (I i)), (5, .d (I n)), (2, .p 0 0 0), (1, .d (I m))] [some (.box (K1 4) (.d x.dv))] = r n)
  (h0 : gc [1, 2, 5, 6] 0 ⟨fr, H⟩ = ⟨[(6, .d (I 0)), (5, .d (I 1)), (2, .p 0 0 0), (1, .d (I m))], [some (.box (K1 4) (.d x.dv))]⟩) :
  kC T.env 0 fr H (.h (.loop [1, 2, 5, 6] L950_0, k)) = r (cntL x.Args.l 1 m) := by
 have hm : maxLen = 9223372036854775807 := rfl
 rw [loop_rounds l (fun i (n : Int) => ⟨[(6, .d (I i)), (5, .d (I n)), (2, .p 0 0 0), (1, .d (I m))], [some (.box (K1 4) (.d x.dv))]⟩) (fun _ n => 1 ≤ n ∧ n ≤ m + 1) (fun i n y c => if n ≤ m then c (n + cntD y.dv (m - n)) else r n) r ?_ ?_ h0 ⟨by omega, by omega⟩]
 ·have key : ∀ (es : List AExpr) (i : Nat) (n : Int), rounds (fun i n y c => if n ≤ m then c (n + cntD (AExpr.dv y) (m - n)) else r n) r i n es = r (cntL (es.map AExpr.dv) n m) := by
   intro es
   induction es with
   | nil => intro i n; simp [rounds, cntL]
   | cons y es ih =>
    intro i n
    rw [rounds, List.map_cons, cntL]
    split
    ·exact ih _ _
    ·rfl
  rw [hl]; exact key l 0 1
 ·intro B _ n _
  have := hk l.length n
  simp [L950_0, hl]
  exact this
 ·intro B _ i n hi hn1 c hc
  have h1 : (i : Int) < l.length := by omega
  have h3 : IntKind.i64.wrap ((i : Int) + 1) = (i : Int) + 1 := wrI (by omega) (by omega)
  have h4 : IntKind.i64.wrap (m - n) = m - n := wrI (by omega) (by omega)
  simp [L950_0, h1, hl]
  refine brn_split (fun h => ?_) (fun h => ?_)
  ·simp at h
   have hb := cntD_le l[i].dv (m - n) (by omega)
   have h5 : IntKind.i64.wrap (n + cntD l[i].dv (m - n)) = n + cntD l[i].dv (m - n) := wrI (by omega) (by omega)
   have hw := hv l[i] (List.getElem_mem hi) (m - n) (by omega) (by omega)
   simp [h, h1, hi, h3, h4, h5, hw, hl]
   exact hc _ _ _ ⟨by omega, by omega⟩ (by simp [gc, Fr.keep, reach, frRefs, heapRefs, PV.refs, place, gcH, orefs, Obj.refs, PV.ren, Obj.ren, Heap.obj, Fr.ren, gh, List.idxOf?_cons])
  ·simp at h
   have h' : ¬ n ≤ m := by omega
   simp [h']
   exact hk i n
theorem val950_n (T : Tab) (hT : HU T) : ∀ (n : Nat) (x : AExpr), SizeOf.sizeOf x.dv < n → x.ok → ∀ m, 0 ≤ m → m ≤ 1000 → T.val 950 [x.dv, I m] = some (.d (I (cntD x.dv m)), false)
 | 0, _, h, _, _, _, _ => absurd h (Nat.not_lt_zero _)
 | n + 1, x, hs, hx, m, h0, h1 => by
  obtain ⟨hlen, l, hl, hlo⟩ := axs_of hx.2.2.2
  rw [val_k T (hT 950 F950 rfl) rfl]
  have hn : l.length ≤ maxLen := by rw [hl] at hlen; simpa using hlen
  have lp := fun k r fr H => @lp950 T x l hl m h0 h1 hn (fun y hy => val950_n T hT n y (by have := arg_lt (x := x) (a := y) (by rw [hl]; exact List.mem_map_of_mem hy); omega) (hlo _ hy)) k r fr H
  simp [F950, Fr.ofArgs]
  refine (lp _ (fun n => some (.d (I n), false)) _ _ (fun i n => ?_) (by simp [gc, Fr.keep, reach, frRefs, heapRefs, PV.refs, place, gcH, orefs, Obj.refs, PV.ren, Obj.ren, Heap.obj, Fr.ren, gh, List.idxOf?_cons])).trans ?_
  ·simp
  ·rfl
theorem val919 (T : Tab) (hT : HU T) (x : AExpr) (hx : x.ok) : T.val 919 [x.dv, I 100] = some (.d (.b (decide (100 < cntD x.dv 100))), false) := by
 rw [val_k T (hT 919 F919 rfl) rfl]
 have e := val950_n T hT _ x (Nat.lt_succ_self _) hx 100 (by decide) (by decide)
 simp [F919, Fr.ofArgs, e]
end Go.Sim
end
section
namespace Go.Sim
set_option maxRecDepth 10000
set_option maxHeartbeats 8000000
def RetT {R : Type} (n : Nat) (k : KC R) (r : Option R) : Prop := ∀ fr H, fr.get n = .d (.b true) → ghosts fr = [] → k .ret fr H = r
theorem RetT_bl {R : Type} {n id : Nat} {k : KC R} {r : Option R} : RetT n (blK id k) r = RetT n k r := rfl
theorem RetT_sq {R : Type} {n : Nat} {E : Env} {base : Nat} {b : PC} {k : KC R} {r : Option R} : RetT n (sqK E base b k) r = RetT n k r := rfl
theorem RetT_fin {n : Nat} {E : Env} : RetT n (fin E [.t n]) (some (.d (.b true), false)) = True := by
  refine eq_true ?_
  intro fr H h1 h2
  rw [fin_ret h2, bo_rest, bo_res0, h1]
  rfl
def grHold (h : AHold) : Bool := decide (200 < h.Key.length)
def grHolds (l : List AHold) : Bool := decide (100 < l.length) || l.any grHold
def grLeg (x : ALeg) : Bool := decide (100 < x.Currency.length)
def grEnt (e : AEntry) : Bool := decide (30 < e.Legs.l.length) || decide (1000 < e.Key.length) || decide (1000 < e.Text.length) || e.Legs.l.any grLeg
def grX (x : AExpr) : Bool := decide (100 < cntD x.dv 100)
def grFee (f : AFee) : Bool := decide (100 < f.Name.length) || grX f.When || grX f.Amount
def grRule (f : ARule) : Bool := decide (100 < f.Name.length) || grX f.Amount
def grProd (p : AProduct) : Bool := decide (100 < p.Name.length) || decide (100 < p.Currency.length) || decide (100 < p.Calendar.length) || decide (20 < p.Credit.Tiers.l.length) || decide (20 < p.Debit.Tiers.l.length) || decide (10 < p.Fees.l.length) || decide (10 < p.Rules.l.length) || p.Fees.l.any grFee || p.Rules.l.any grRule
def grCal (c : ACalendar) : Bool := decide (400 < c.Holidays.l.length) || decide (20 < c.Weekend.l.length)
def great (b : ABooks) : Bool := decide (20 < b.Currencies.l.length) || decide (10 < b.Calendars.l.length) || decide (60 < b.Chart.l.length) || decide (20 < b.Products.l.length) || decide (40 < b.Accounts.l.length) || decide (150 < b.Journal.l.length) || grHolds b.Holds.l || decide (100 < b.Blocks.l.length) || b.Products.l.any grProd || b.Journal.l.any grEnt || b.Calendars.l.any grCal
theorem lp1094 (T : Tab) (l : List AHold) (t : Bool) (hn : l.length ≤ maxLen) {k : KC (PV × Bool)} {r : Option (PV × Bool)} {fr : Fr} {H : Heap} (hr : RetT 2 k r) (h0 : gc [0, 3] 0 ⟨fr, H⟩ = ⟨[(3, (.d (I (0 : Int)))), (0, (.d (.l (K1 6) (l.map AHold.dv) t)))], []⟩) :
    kC T.env 0 fr H (.h (.loop [0, 3] L1094_0, k)) = brn (l.any (grHold)) (.h (r, k (.exit 0) [(10, .d (.b false)), (3, (.d (I (l.length : Int)))), (0, (.d (.l (K1 6) (l.map AHold.dv) t)))] [])) := by
  have hm : maxLen = 9223372036854775807 := rfl
  rw [loop_rounds l (fun i _ => ⟨[(3, (.d (I (i : Int)))), (0, (.d (.l (K1 6) (l.map AHold.dv) t)))], []⟩) (fun _ _ => True) (fun i _ x c => if (grHold) x = true then r else c ()) (fun _ => k (.exit 0) [(10, .d (.b false)), (3, (.d (I (l.length : Int)))), (0, (.d (.l (K1 6) (l.map AHold.dv) t)))] []) ?_ ?_ h0 trivial]
  · rw [rounds_any (grHold) r]
    · cases l.any (grHold) <;> rfl
    · exact fun _ _ _ _ => rfl
  · intro B _ _ _
    simp [L1094_0]
  · intro B _ i _ hi _ c hc
    have h1 : (i : Int) < l.length := by omega
    have h3 : IntKind.i64.wrap ((i : Int) + 1) = (i : Int) + 1 := wrI (by omega) (by omega)
    simp [L1094_0, h1, hi]
    repeat' (refine brn_split (fun h => ?_) (fun h => ?_) <;> (try simp at h) <;> (try simp [h3]))
    all_goals first
      | (have e : (grHold) l[i] = true := by
           simp [grHold, *]
           try omega
         rw [if_pos e]; exact hr _ _ (by simp [Fr.get]) (by simp [ghosts, gh]))
      | (have e : ¬ (grHold) l[i] = true := by
           simp [grHold, *]
           try omega
         rw [if_neg e]; exact hc () _ _ trivial (by simp [gc, Fr.keep, reach, frRefs, heapRefs, PV.refs, gcH, PV.ren, Obj.ren, Heap.obj, Fr.ren, gh]))
theorem val1094 (T : Tab) (hT : HU T) (l : List AHold) (t : Bool) (hn : l.length ≤ maxLen) : T.val 1094 [.l (K1 6) (l.map AHold.dv) t] = some (.d (.b (grHolds l)), false) := by
  rw [val_k T (hT 1094 F1094 rfl) rfl]
  have lp := fun k fr H => @lp1094 T l t hn k (some (.d (.b true), false)) fr H
  obtain ⟨q, hq⟩ : ∃ q, l.any grHold = q := ⟨_, rfl⟩
  simp only [hq] at lp
  have hs : grHolds l = (decide (100 < l.length) || q) := by rw [grHolds, hq]
  clear hq
  simp [F1094, Fr.ofArgs]
  repeat' first
    | (refine brn_split (fun h => ?_) (fun h => ?_) <;> (try simp at h) <;> (try simp))
    | refine (lp _ _ _ (by simp [RetT_bl, RetT_sq, RetT_fin]) (by simp [gc, Fr.keep, reach, frRefs, heapRefs, PV.refs, gcH, PV.ren, Obj.ren, Heap.obj, Fr.ren, gh])).trans ?_
  all_goals simp_all
  all_goals omega
theorem lp1096 (T : Tab) (e : AEntry) (hn : e.Legs.l.length ≤ maxLen) {k : KC (PV × Bool)} {r : Option (PV × Bool)} {fr : Fr} {H : Heap} (hr : RetT 2 k r) (h0 : gc [1, 3] 0 ⟨fr, H⟩ = ⟨[(3, (.d (I (0 : Int)))), (1, (.p 0 0 0))], [some (.box (K1 10) (.d e.dv))]⟩) :
    kC T.env 0 fr H (.h (.loop [1, 3] L1096_0, k)) = brn (e.Legs.l.any (grLeg)) (.h (r, k (.exit 0) [(24, .d (.b false)), (3, (.d (I (e.Legs.l.length : Int)))), (1, (.p 0 0 0))] [some (.box (K1 10) (.d e.dv))])) := by
  have hm : maxLen = 9223372036854775807 := rfl
  rw [loop_rounds e.Legs.l (fun i _ => ⟨[(3, (.d (I (i : Int)))), (1, (.p 0 0 0))], [some (.box (K1 10) (.d e.dv))]⟩) (fun _ _ => True) (fun i _ x c => if (grLeg) x = true then r else c ()) (fun _ => k (.exit 0) [(24, .d (.b false)), (3, (.d (I (e.Legs.l.length : Int)))), (1, (.p 0 0 0))] [some (.box (K1 10) (.d e.dv))]) ?_ ?_ h0 trivial]
  · rw [rounds_any (grLeg) r]
    · cases e.Legs.l.any (grLeg) <;> rfl
    · exact fun _ _ _ _ => rfl
  · intro B _ _ _
    simp [L1096_0]
  · intro B _ i _ hi _ c hc
    have h1 : (i : Int) < e.Legs.l.length := by omega
    have h3 : IntKind.i64.wrap ((i : Int) + 1) = (i : Int) + 1 := wrI (by omega) (by omega)
    simp [L1096_0, h1, hi]
    repeat' (refine brn_split (fun h => ?_) (fun h => ?_) <;> (try simp at h) <;> (try simp [h3]))
    all_goals first
      | (have e : (grLeg) e.Legs.l[i] = true := by
           simp [grLeg, *]
           try omega
         rw [if_pos e]; exact hr _ _ (by simp [Fr.get]) (by simp [ghosts, gh]))
      | (have e : ¬ (grLeg) e.Legs.l[i] = true := by
           simp [grLeg, *]
           try omega
         rw [if_neg e]; exact hc () _ _ trivial (by simp [gc, Fr.keep, reach, frRefs, heapRefs, PV.refs, place, gcH, orefs, Obj.refs, PV.ren, Obj.ren, Heap.obj, Fr.ren, gh, List.idxOf?_cons]))
theorem val1096 (T : Tab) (hT : HU T) (e : AEntry) (he : e.ok) : T.val 1096 [e.dv] = some (.d (.b (grEnt e)), false) := by
  rw [val_k T (hT 1096 F1096 rfl) rfl]
  have lp := fun k fr H => @lp1096 T e (he.2.2.2.2.2.2.2.2.1).1 k (some (.d (.b true), false)) fr H
  obtain ⟨q, hq⟩ : ∃ q, e.Legs.l.any grLeg = q := ⟨_, rfl⟩
  simp only [hq] at lp
  have hs : grEnt e = (decide (30 < e.Legs.l.length) || decide (1000 < e.Key.length) || decide (1000 < e.Text.length) || q) := by rw [grEnt, hq]
  clear hq
  simp [F1096, Fr.ofArgs]
  repeat' first
    | (refine brn_split (fun h => ?_) (fun h => ?_) <;> (try simp at h) <;> (try simp [h]))
    | refine (lp _ _ _ (by simp [RetT_bl, RetT_sq, RetT_fin]) (by simp [gc, Fr.keep, reach, frRefs, heapRefs, PV.refs, place, gcH, orefs, Obj.refs, PV.ren, Obj.ren, Heap.obj, Fr.ren, gh, List.idxOf?_cons])).trans ?_
  all_goals simp_all
  all_goals omega
end Go.Sim
end
section
namespace Go.Sim
set_option maxRecDepth 10000
set_option maxHeartbeats 8000000
theorem lp1095_0 (T : Tab) (hT : HU T) (p : AProduct) (hn : p.Fees.l.length ≤ maxLen) (ho : ∀ f ∈ p.Fees.l, f.ok) {k : KC (PV × Bool)} {r : Option (PV × Bool)} {fr : Fr} {H : Heap} (hr : RetT 2 k r) (h0 : gc [1, 3] 0 ⟨fr, H⟩ = ⟨[(3, (.d (I (0 : Int)))), (1, (.p 0 0 0))], [some (.box (K1 19) (.d p.dv))]⟩) :
    kC T.env 0 fr H (.h (.loop [1, 3] L1095_0, k)) = brn (p.Fees.l.any (grFee)) (.h (r, k (.exit 0) [(51, .d (.b false)), (3, (.d (I (p.Fees.l.length : Int)))), (1, (.p 0 0 0))] [some (.box (K1 19) (.d p.dv))])) := by
  have hm : maxLen = 9223372036854775807 := rfl
  rw [loop_rounds p.Fees.l (fun i _ => ⟨[(3, (.d (I (i : Int)))), (1, (.p 0 0 0))], [some (.box (K1 19) (.d p.dv))]⟩) (fun _ _ => True) (fun i _ x c => if (grFee) x = true then r else c ()) (fun _ => k (.exit 0) [(51, .d (.b false)), (3, (.d (I (p.Fees.l.length : Int)))), (1, (.p 0 0 0))] [some (.box (K1 19) (.d p.dv))]) ?_ ?_ h0 trivial]
  · rw [rounds_any (grFee) r]
    · cases p.Fees.l.any (grFee) <;> rfl
    · exact fun _ _ _ _ => rfl
  · intro B _ _ _
    simp [L1095_0]
  · intro B _ i _ hi _ c hc
    have h1 : (i : Int) < p.Fees.l.length := by omega
    have h3 : IntKind.i64.wrap ((i : Int) + 1) = (i : Int) + 1 := wrI (by omega) (by omega)
    have o1 := ho _ (List.getElem_mem hi)
    have e0 := val919 T hT p.Fees.l[i].When o1.2.2.1
    have e1 := val919 T hT p.Fees.l[i].Amount o1.2.2.2
    simp [L1095_0, h1, hi]
    repeat' (refine brn_split (fun h => ?_) (fun h => ?_) <;> (try simp at h) <;> (try simp [h, h1, hi, h3, e0, e1]))
    all_goals first
      | (have e : (grFee) p.Fees.l[i] = true := by
           simp [grFee, grX, *]
           try omega
         rw [if_pos e]; exact hr _ _ (by simp [Fr.get]) (by simp [ghosts, gh]))
      | (have e : ¬ (grFee) p.Fees.l[i] = true := by
           simp [grFee, grX, *]
           try omega
         rw [if_neg e]; exact hc () _ _ trivial (by simp [gc, Fr.keep, reach, frRefs, heapRefs, PV.refs, place, gcH, orefs, Obj.refs, PV.ren, Obj.ren, Heap.obj, Fr.ren, gh, List.idxOf?_cons]))
theorem lp1095_1 (T : Tab) (hT : HU T) (p : AProduct) (hn : p.Rules.l.length ≤ maxLen) (ho : ∀ f ∈ p.Rules.l, f.ok) {k : KC (PV × Bool)} {r : Option (PV × Bool)} {fr : Fr} {H : Heap} (hr : RetT 2 k r) (h0 : gc [1, 4] 0 ⟨fr, H⟩ = ⟨[(4, (.d (I (0 : Int)))), (1, (.p 0 0 0))], [some (.box (K1 19) (.d p.dv))]⟩) :
    kC T.env 0 fr H (.h (.loop [1, 4] L1095_1, k)) = brn (p.Rules.l.any (grRule)) (.h (r, k (.exit 2) [(84, .d (.b false)), (4, (.d (I (p.Rules.l.length : Int)))), (1, (.p 0 0 0))] [some (.box (K1 19) (.d p.dv))])) := by
  have hm : maxLen = 9223372036854775807 := rfl
  rw [loop_rounds p.Rules.l (fun i _ => ⟨[(4, (.d (I (i : Int)))), (1, (.p 0 0 0))], [some (.box (K1 19) (.d p.dv))]⟩) (fun _ _ => True) (fun i _ x c => if (grRule) x = true then r else c ()) (fun _ => k (.exit 2) [(84, .d (.b false)), (4, (.d (I (p.Rules.l.length : Int)))), (1, (.p 0 0 0))] [some (.box (K1 19) (.d p.dv))]) ?_ ?_ h0 trivial]
  · rw [rounds_any (grRule) r]
    · cases p.Rules.l.any (grRule) <;> rfl
    · exact fun _ _ _ _ => rfl
  · intro B _ _ _
    simp [L1095_1]
  · intro B _ i _ hi _ c hc
    have h1 : (i : Int) < p.Rules.l.length := by omega
    have h3 : IntKind.i64.wrap ((i : Int) + 1) = (i : Int) + 1 := wrI (by omega) (by omega)
    have o1 := ho _ (List.getElem_mem hi)
    have e1 := val919 T hT p.Rules.l[i].Amount o1.2.2
    simp [L1095_1, h1, hi]
    repeat' (refine brn_split (fun h => ?_) (fun h => ?_) <;> (try simp at h) <;> (try simp [h, h1, hi, h3, e1]))
    all_goals first
      | (have e : (grRule) p.Rules.l[i] = true := by
           simp [grRule, grX, *]
           try omega
         rw [if_pos e]; exact hr _ _ (by simp [Fr.get]) (by simp [ghosts, gh]))
      | (have e : ¬ (grRule) p.Rules.l[i] = true := by
           simp [grRule, grX, *]
           try omega
         rw [if_neg e]; exact hc () _ _ trivial (by simp [gc, Fr.keep, reach, frRefs, heapRefs, PV.refs, place, gcH, orefs, Obj.refs, PV.ren, Obj.ren, Heap.obj, Fr.ren, gh, List.idxOf?_cons]))
theorem val1095 (T : Tab) (hT : HU T) (p : AProduct) (hp : p.ok) : T.val 1095 [p.dv] = some (.d (.b (grProd p)), false) := by
  rw [val_k T (hT 1095 F1095 rfl) rfl]
  have lp0 := fun k fr H => @lp1095_0 T hT p (hp.2.2.2.2.2.2.2.2.2.1).1 (hp.2.2.2.2.2.2.2.2.2.1).2 k (some (.d (.b true), false)) fr H
  have lp1 := fun k fr H => @lp1095_1 T hT p (hp.2.2.2.2.2.2.2.2.2.2).1 (hp.2.2.2.2.2.2.2.2.2.2).2 k (some (.d (.b true), false)) fr H
  obtain ⟨q0, hq0⟩ : ∃ q, p.Fees.l.any grFee = q := ⟨_, rfl⟩
  obtain ⟨q1, hq1⟩ : ∃ q, p.Rules.l.any grRule = q := ⟨_, rfl⟩
  simp only [hq0] at lp0
  simp only [hq1] at lp1
  have hs : grProd p = (decide (100 < p.Name.length) || decide (100 < p.Currency.length) || decide (100 < p.Calendar.length) || decide (20 < p.Credit.Tiers.l.length) || decide (20 < p.Debit.Tiers.l.length) || decide (10 < p.Fees.l.length) || decide (10 < p.Rules.l.length) || q0 || q1) := by rw [grProd, hq0, hq1]
  clear hq0 hq1
  simp [F1095, Fr.ofArgs]
  repeat' first
    | (refine brn_split (fun h => ?_) (fun h => ?_) <;> (try simp at h) <;> (try simp [h]))
    | refine (lp0 _ _ _ (by simp [RetT_bl, RetT_sq, RetT_fin]) (by simp [gc, Fr.keep, reach, frRefs, heapRefs, PV.refs, place, gcH, orefs, Obj.refs, PV.ren, Obj.ren, Heap.obj, Fr.ren, gh, List.idxOf?_cons])).trans ?_
    | refine (lp1 _ _ _ (by simp [RetT_bl, RetT_sq, RetT_fin]) (by simp [gc, Fr.keep, reach, frRefs, heapRefs, PV.refs, place, gcH, orefs, Obj.refs, PV.ren, Obj.ren, Heap.obj, Fr.ren, gh, List.idxOf?_cons])).trans ?_
  all_goals simp_all
  all_goals omega
theorem lp1090_0 (T : Tab) (hT : HU T) (b : ABooks) (hn : b.Products.l.length ≤ maxLen) (ho : ∀ f ∈ b.Products.l, f.ok) {k : KC (PV × Bool)} {r : Option (PV × Bool)} {fr : Fr} {H : Heap} (hr : RetT 2 k r) (h0 : gc [1, 3] 0 ⟨fr, H⟩ = ⟨[(3, (.d (I (0 : Int)))), (1, (.p 0 0 0))], [some (.box (K1 22) (.d b.dv))]⟩) :
    kC T.env 0 fr H (.h (.loop [1, 3] L1090_0, k)) = brn (b.Products.l.any (grProd)) (.h (r, k (.exit 0) [(55, .d (.b false)), (3, (.d (I (b.Products.l.length : Int)))), (1, (.p 0 0 0))] [some (.box (K1 22) (.d b.dv))])) := by
  have hm : maxLen = 9223372036854775807 := rfl
  rw [loop_rounds b.Products.l (fun i _ => ⟨[(3, (.d (I (i : Int)))), (1, (.p 0 0 0))], [some (.box (K1 22) (.d b.dv))]⟩) (fun _ _ => True) (fun i _ x c => if (grProd) x = true then r else c ()) (fun _ => k (.exit 0) [(55, .d (.b false)), (3, (.d (I (b.Products.l.length : Int)))), (1, (.p 0 0 0))] [some (.box (K1 22) (.d b.dv))]) ?_ ?_ h0 trivial]
  · rw [rounds_any (grProd) r]
    · cases b.Products.l.any (grProd) <;> rfl
    · exact fun _ _ _ _ => rfl
  · intro B _ _ _
    simp [L1090_0]
  · intro B _ i _ hi _ c hc
    have h1 : (i : Int) < b.Products.l.length := by omega
    have h3 : IntKind.i64.wrap ((i : Int) + 1) = (i : Int) + 1 := wrI (by omega) (by omega)
    have e1 := val1095 T hT b.Products.l[i] (ho _ (List.getElem_mem hi))
    obtain ⟨q, hq⟩ : ∃ q, grProd b.Products.l[i] = q := ⟨_, rfl⟩
    rw [hq] at e1
    simp [L1090_0, h1, hi, e1]
    repeat' (refine brn_split (fun h => ?_) (fun h => ?_) <;> (try simp at h) <;> (try simp [h3]))
    all_goals first
      | (have e : (grProd) b.Products.l[i] = true := by
           simp [*]
           try omega
         rw [if_pos e]; exact hr _ _ (by simp [Fr.get]) (by simp [ghosts, gh]))
      | (have e : ¬ (grProd) b.Products.l[i] = true := by
           simp [*]
           try omega
         rw [if_neg e]; exact hc () _ _ trivial (by simp [gc, Fr.keep, reach, frRefs, heapRefs, PV.refs, place, gcH, orefs, Obj.refs, PV.ren, Obj.ren, Heap.obj, Fr.ren, gh, List.idxOf?_cons]))
theorem lp1090_1 (T : Tab) (hT : HU T) (b : ABooks) (hn : b.Journal.l.length ≤ maxLen) (ho : ∀ f ∈ b.Journal.l, f.ok) {k : KC (PV × Bool)} {r : Option (PV × Bool)} {fr : Fr} {H : Heap} (hr : RetT 2 k r) (h0 : gc [1, 4] 0 ⟨fr, H⟩ = ⟨[(4, (.d (I (0 : Int)))), (1, (.p 0 0 0))], [some (.box (K1 22) (.d b.dv))]⟩) :
    kC T.env 0 fr H (.h (.loop [1, 4] L1090_1, k)) = brn (b.Journal.l.any (grEnt)) (.h (r, k (.exit 2) [(68, .d (.b false)), (4, (.d (I (b.Journal.l.length : Int)))), (1, (.p 0 0 0))] [some (.box (K1 22) (.d b.dv))])) := by
  have hm : maxLen = 9223372036854775807 := rfl
  rw [loop_rounds b.Journal.l (fun i _ => ⟨[(4, (.d (I (i : Int)))), (1, (.p 0 0 0))], [some (.box (K1 22) (.d b.dv))]⟩) (fun _ _ => True) (fun i _ x c => if (grEnt) x = true then r else c ()) (fun _ => k (.exit 2) [(68, .d (.b false)), (4, (.d (I (b.Journal.l.length : Int)))), (1, (.p 0 0 0))] [some (.box (K1 22) (.d b.dv))]) ?_ ?_ h0 trivial]
  · rw [rounds_any (grEnt) r]
    · cases b.Journal.l.any (grEnt) <;> rfl
    · exact fun _ _ _ _ => rfl
  · intro B _ _ _
    simp [L1090_1]
  · intro B _ i _ hi _ c hc
    have h1 : (i : Int) < b.Journal.l.length := by omega
    have h3 : IntKind.i64.wrap ((i : Int) + 1) = (i : Int) + 1 := wrI (by omega) (by omega)
    have e1 := val1096 T hT b.Journal.l[i] (ho _ (List.getElem_mem hi))
    obtain ⟨q, hq⟩ : ∃ q, grEnt b.Journal.l[i] = q := ⟨_, rfl⟩
    rw [hq] at e1
    simp [L1090_1, h1, hi, e1]
    repeat' (refine brn_split (fun h => ?_) (fun h => ?_) <;> (try simp at h) <;> (try simp [h3]))
    all_goals first
      | (have e : (grEnt) b.Journal.l[i] = true := by
           simp [*]
           try omega
         rw [if_pos e]; exact hr _ _ (by simp [Fr.get]) (by simp [ghosts, gh]))
      | (have e : ¬ (grEnt) b.Journal.l[i] = true := by
           simp [*]
           try omega
         rw [if_neg e]; exact hc () _ _ trivial (by simp [gc, Fr.keep, reach, frRefs, heapRefs, PV.refs, place, gcH, orefs, Obj.refs, PV.ren, Obj.ren, Heap.obj, Fr.ren, gh, List.idxOf?_cons]))
theorem lp1090_2 (T : Tab) (b : ABooks) (hn : b.Calendars.l.length ≤ maxLen) {k : KC (PV × Bool)} {r : Option (PV × Bool)} {fr : Fr} {H : Heap} (hr : RetT 2 k r) (h0 : gc [1, 5] 0 ⟨fr, H⟩ = ⟨[(5, (.d (I (0 : Int)))), (1, (.p 0 0 0))], [some (.box (K1 22) (.d b.dv))]⟩) :
    kC T.env 0 fr H (.h (.loop [1, 5] L1090_2, k)) = brn (b.Calendars.l.any (grCal)) (.h (r, k (.exit 4) [(81, .d (.b false)), (5, (.d (I (b.Calendars.l.length : Int)))), (1, (.p 0 0 0))] [some (.box (K1 22) (.d b.dv))])) := by
  have hm : maxLen = 9223372036854775807 := rfl
  rw [loop_rounds b.Calendars.l (fun i _ => ⟨[(5, (.d (I (i : Int)))), (1, (.p 0 0 0))], [some (.box (K1 22) (.d b.dv))]⟩) (fun _ _ => True) (fun i _ x c => if (grCal) x = true then r else c ()) (fun _ => k (.exit 4) [(81, .d (.b false)), (5, (.d (I (b.Calendars.l.length : Int)))), (1, (.p 0 0 0))] [some (.box (K1 22) (.d b.dv))]) ?_ ?_ h0 trivial]
  · rw [rounds_any (grCal) r]
    · cases b.Calendars.l.any (grCal) <;> rfl
    · exact fun _ _ _ _ => rfl
  · intro B _ _ _
    simp [L1090_2]
  · intro B _ i _ hi _ c hc
    have h1 : (i : Int) < b.Calendars.l.length := by omega
    have h3 : IntKind.i64.wrap ((i : Int) + 1) = (i : Int) + 1 := wrI (by omega) (by omega)
    simp [L1090_2, h1, hi]
    repeat' (refine brn_split (fun h => ?_) (fun h => ?_) <;> (try simp at h) <;> (try simp [h, h1, hi, h3]))
    all_goals first
      | (have e : (grCal) b.Calendars.l[i] = true := by
           simp [grCal, *]
           try omega
         rw [if_pos e]; exact hr _ _ (by simp [Fr.get]) (by simp [ghosts, gh]))
      | (have e : ¬ (grCal) b.Calendars.l[i] = true := by
           simp [grCal, *]
           try omega
         rw [if_neg e]; exact hc () _ _ trivial (by simp [gc, Fr.keep, reach, frRefs, heapRefs, PV.refs, place, gcH, orefs, Obj.refs, PV.ren, Obj.ren, Heap.obj, Fr.ren, gh, List.idxOf?_cons]))
theorem val1090 (T : Tab) (hT : HU T) (b : ABooks) (hb : b.ok) : T.val 1090 [b.dv] = some (.d (.b (great b)), false) := by
  rw [val_k T (hT 1090 F1090 rfl) rfl]
  have lp0 := fun k fr H => @lp1090_0 T hT b (hb.2.2.2.2.1).1 (hb.2.2.2.2.1).2 k (some (.d (.b true), false)) fr H
  have lp1 := fun k fr H => @lp1090_1 T hT b (hb.2.2.2.2.2.2.1).1 (hb.2.2.2.2.2.2.1).2 k (some (.d (.b true), false)) fr H
  have lp2 := fun k fr H => @lp1090_2 T b (hb.2.1).1 k (some (.d (.b true), false)) fr H
  have e := val1094 T hT b.Holds.l b.Holds.t (hb.2.2.2.2.2.2.2.1).1
  obtain ⟨q0, hq0⟩ : ∃ q, b.Products.l.any grProd = q := ⟨_, rfl⟩
  obtain ⟨q1, hq1⟩ : ∃ q, b.Journal.l.any grEnt = q := ⟨_, rfl⟩
  obtain ⟨q2, hq2⟩ : ∃ q, b.Calendars.l.any grCal = q := ⟨_, rfl⟩
  obtain ⟨q3, hq3⟩ : ∃ q, grHolds b.Holds.l = q := ⟨_, rfl⟩
  simp only [hq0] at lp0
  simp only [hq1] at lp1
  simp only [hq2] at lp2
  simp only [hq3] at e
  have hs : great b = (decide (20 < b.Currencies.l.length) || decide (10 < b.Calendars.l.length) || decide (60 < b.Chart.l.length) || decide (20 < b.Products.l.length) || decide (40 < b.Accounts.l.length) || decide (150 < b.Journal.l.length) || q3 || decide (100 < b.Blocks.l.length) || q0 || q1 || q2) := by rw [great, hq0, hq1, hq2, hq3]
  clear hq0 hq1 hq2 hq3
  simp [F1090, Fr.ofArgs]
  repeat' first
    | (refine brn_split (fun h => ?_) (fun h => ?_) <;> (try simp at h) <;> (try simp [h, e]))
    | refine (lp0 _ _ _ (by simp [RetT_bl, RetT_sq, RetT_fin]) (by simp [gc, Fr.keep, reach, frRefs, heapRefs, PV.refs, place, gcH, orefs, Obj.refs, PV.ren, Obj.ren, Heap.obj, Fr.ren, gh, List.idxOf?_cons])).trans ?_
    | refine (lp1 _ _ _ (by simp [RetT_bl, RetT_sq, RetT_fin]) (by simp [gc, Fr.keep, reach, frRefs, heapRefs, PV.refs, place, gcH, orefs, Obj.refs, PV.ren, Obj.ren, Heap.obj, Fr.ren, gh, List.idxOf?_cons])).trans ?_
    | refine (lp2 _ _ _ (by simp [RetT_bl, RetT_sq, RetT_fin]) (by simp [gc, Fr.keep, reach, frRefs, heapRefs, PV.refs, place, gcH, orefs, Obj.refs, PV.ren, Obj.ren, Heap.obj, Fr.ren, gh, List.idxOf?_cons])).trans ?_
  all_goals simp_all
  all_goals omega
end Go.Sim
end
section
namespace Go.Sim
set_option maxRecDepth 10000
set_option maxHeartbeats 4000000
def pTch (id : Int) (x : ALeg) : Bool := x.Account == id
def tch (id : Int) (e : AEntry) : Bool := e.Legs.l.any (pTch id)
theorem idxI_any {α : Type} (p : α → Bool) (l : List α) : decide (0 ≤ idxI p l) = l.any p := by
  unfold idxI
  cases h : l.findIdx? p with
  | none =>
    have := List.findIdx?_eq_none_iff.1 h
    have : l.any p = false := by
      rw [List.any_eq_false]; intro x hx; simpa using this x hx
    rw [this]; rfl
  | some j =>
    have : l.any p = true := by
      obtain ⟨hj, h1, -⟩ := List.findIdx?_eq_some_iff_getElem.1 h
      exact List.any_eq_true.2 ⟨_, List.getElem_mem hj, h1⟩
    rw [this]; simp
theorem ref708 {α : Type} (T : Tab) (hT : HV T) (g : Nat) (dv : α → DV) (p : α → Bool) (c : PV) (cs : List PV) (H0 : Heap) (hH : Cl H0) (hc : ∀ r ∈ PV.refsL (c :: cs), r < H0.length) (l : List α) (hv : ∀ x ∈ l, T.ref g (.d (dv x) :: c :: cs) H0 = some (.d (.b (p x)), H0)) (s : Bool) (hn : l.length ≤ maxLen) :
    T.ref 708 [.d (.l (K1 3) (l.map dv) s), .f g (c :: cs)] H0 = some (.d (.b (l.any p)), H0) := by
  rw [ref_k T (hT 708 F708 rfl) rfl]
  have e := refIdx T (hT 265 F265 rfl) g dv p c cs H0 hH hc l hv s hn
  have e2 := idxI_any p l
  simp [F708, Fr.ofArgs, e, e2, finR_ret, gcVd0 hH]
theorem ref934 (T : Tab) (hT : HV T) (x : ALeg) (e : AEntry) (id : Int) : T.ref 934 [.d x.dv, .p 1 0 0] [some (.box (K1 10) (.d e.dv)), some (.box K0 (.d (I id)))] = some (.d (.b (pTch id x)), [some (.box (K1 10) (.d e.dv)), some (.box K0 (.d (I id)))]) := by
  rw [ref_k T (hT 934 F934 rfl) rfl]
  have hH := Cl_b2 (K1 10) K0 e.dv (I id)
  simp [F934, Fr.ofArgs, finR_ret, pTch]
  exact (gcVd hH [some (.box (K1 3) (.d x.dv))] _)
theorem val883 (T : Tab) (hT : HV T) (e : AEntry) (id : Int) (hn : e.Legs.l.length ≤ maxLen) : T.val 883 [e.dv, I id] = some (.d (.b (tch id e)), false) := by
  rw [val_k T (hT 883 F883 rfl) rfl]
  have e1 := ref708 T hT 934 ALeg.dv (pTch id) (.p 1 0 0) [] [some (.box (K1 10) (.d e.dv)), some (.box K0 (.d (I id)))] (Cl_b2 _ _ _ _) (by simp [PV.refs, PV.refsL]) e.Legs.l (fun a _ => ref934 T hT a e id) e.Legs.t hn
  simp [F883, Fr.ofArgs, e1, tch]
theorem lp1047 (T : Tab) (e : AEntry) (id : Int) (hn : e.Legs.l.length ≤ maxLen) {k : KC (PV × Bool)} {r : Option (PV × Bool)} {fr : Fr} {H : Heap} (hr : RetT 4 k r) (h0 : gc [1, 2, 5] 0 ⟨fr, H⟩ = ⟨[(5, .d (I (0 : Int))), (2, .p 0 0 0), (1, .d (I id))], [some (.box (K1 10) (.d e.dv))]⟩) :
    kC T.env 0 fr H (.h (.loop [1, 2, 5] L1047_0, k)) = brn (e.Legs.l.any (pTch id)) (.h (r, k (.exit 0) [(10, .d (.b false)), (5, .d (I (e.Legs.l.length : Int))), (2, .p 0 0 0), (1, .d (I id))] [some (.box (K1 10) (.d e.dv))])) := by
  have hm : maxLen = 9223372036854775807 := rfl
  rw [loop_rounds e.Legs.l (fun i _ => ⟨[(5, .d (I (i : Int))), (2, .p 0 0 0), (1, .d (I id))], [some (.box (K1 10) (.d e.dv))]⟩) (fun _ _ => True) (fun i _ x c => if (pTch id) x = true then r else c ()) (fun _ => k (.exit 0) [(10, .d (.b false)), (5, .d (I (e.Legs.l.length : Int))), (2, .p 0 0 0), (1, .d (I id))] [some (.box (K1 10) (.d e.dv))]) ?_ ?_ h0 trivial]
  · rw [rounds_any (pTch id) r]
    · cases e.Legs.l.any (pTch id) <;> rfl
    · exact fun _ _ _ _ => rfl
  · intro B _ _ _
    simp [L1047_0]
  · intro B _ i _ hi _ c hc
    have h1 : (i : Int) < e.Legs.l.length := by omega
    have h3 : IntKind.i64.wrap ((i : Int) + 1) = (i : Int) + 1 := wrI (by omega) (by omega)
    simp [L1047_0, h1, hi]
    repeat' (refine brn_split (fun h => ?_) (fun h => ?_) <;> (try simp at h) <;> (try simp [h3]))
    all_goals first
      | (have e : (pTch id) e.Legs.l[i] = true := by
           simp [pTch, *]
           try omega
         rw [if_pos e]; exact hr _ _ (by simp [Fr.get]) (by simp [ghosts, gh]))
      | (have e : ¬ (pTch id) e.Legs.l[i] = true := by
           simp [pTch, *]
           try omega
         rw [if_neg e]; exact hc () _ _ trivial (by simp [gc, Fr.keep, reach, frRefs, heapRefs, PV.refs, place, gcH, orefs, Obj.refs, PV.ren, Obj.ren, Heap.obj, Fr.ren, gh, List.idxOf?_cons]))
theorem val1047 (T : Tab) (hT : HV T) (e : AEntry) (id : Int) (hn : e.Legs.l.length ≤ maxLen) : T.val 1047 [e.dv, I id] = some (.d (.b (tch id e)), false) := by
  rw [val_k T (hT 1047 F1047 rfl) rfl]
  have lp := fun k r fr H => @lp1047 T e id hn k r fr H
  unfold tch
  simp [F1047, Fr.ofArgs]
  refine (lp _ (some (.d (.b true), false)) _ _ (by simp [RetT_bl, RetT_sq, RetT_fin]) (by simp [gc, Fr.keep, reach, frRefs, heapRefs, PV.refs, place, gcH, orefs, Obj.refs, PV.ren, Obj.ren, Heap.obj, Fr.ren, gh, List.idxOf?_cons])).trans ?_
  refine brn_split (fun h => ?_) (fun h => ?_)
  · rw [h]
  · simp [h]
def fCnt (id frm upto : Int) (_ : Nat) (n : Int) (e : AEntry) : Int := if (decide (frm ≤ e.Booked) && (decide (e.Booked ≤ upto) && tch id e)) = true then w64 (n + 1) else n
def cntN (j : List AEntry) (id frm upto : Int) : Int := foldN (fCnt id frm upto) 0 0 j
theorem lp801_0 (T : Tab) (hT : HV T) (a : AAccount) (l : List AEntry) (t : Bool) (id frm upto amt now low vol : Int) (hn : l.length ≤ maxLen) (ho : ∀ e ∈ l, e.ok) {k : KC (PV × Bool)} {fr : Fr} {H : Heap} (h0 : gc [1, 2, 3, 10, 12, 13, 14, 16, 18, 75, 76, 77] 0 ⟨fr, H⟩ = ⟨[(77, (.d (I (0 : Int)))), (76, (.d (I l.length))), (75, (.d (.l (K1 10) (l.map AEntry.dv) t))), (18, (.d (I 0))), (16, (.d (I vol))), (14, (.d (I low))), (13, (.d (I now))), (12, (.d (I frm))), (10, (.p 0 0 0)), (3, (.d (I amt))), (2, (.d (I upto))), (1, (.d (I id)))], [some (.box (K1 7) (.d a.dv))]⟩) :
    kC T.env 0 fr H (.h (.loop [1, 2, 3, 10, 12, 13, 14, 16, 18, 75, 76, 77] L801_0, k)) = k (.exit 1) [(78, .d (.b false)), (77, (.d (I (l.length : Int)))), (76, (.d (I l.length))), (75, (.d (.l (K1 10) (l.map AEntry.dv) t))), (18, (.d (I (foldN (fCnt id frm upto) 0 0 l)))), (16, (.d (I vol))), (14, (.d (I low))), (13, (.d (I now))), (12, (.d (I frm))), (10, (.p 0 0 0)), (3, (.d (I amt))), (2, (.d (I upto))), (1, (.d (I id)))] [some (.box (K1 7) (.d a.dv))] := by
  rw [loop_rounds l (fun i (b : Int) => ⟨[(77, (.d (I (i : Int)))), (76, (.d (I l.length))), (75, (.d (.l (K1 10) (l.map AEntry.dv) t))), (18, (.d (I b))), (16, (.d (I vol))), (14, (.d (I low))), (13, (.d (I now))), (12, (.d (I frm))), (10, (.p 0 0 0)), (3, (.d (I amt))), (2, (.d (I upto))), (1, (.d (I id)))], [some (.box (K1 7) (.d a.dv))]⟩) (fun _ _ => True) (fun i b x c => c (fCnt id frm upto i b x)) (fun b => k (.exit 1) [(78, .d (.b false)), (77, (.d (I (l.length : Int)))), (76, (.d (I l.length))), (75, (.d (.l (K1 10) (l.map AEntry.dv) t))), (18, (.d (I b))), (16, (.d (I vol))), (14, (.d (I low))), (13, (.d (I now))), (12, (.d (I frm))), (10, (.p 0 0 0)), (3, (.d (I amt))), (2, (.d (I upto))), (1, (.d (I id)))] [some (.box (K1 7) (.d a.dv))]) ?_ ?_ h0 trivial]
  · rw [rounds_fold (fCnt id frm upto) _ _ (fun _ _ _ _ => rfl)]
  · intro B _ b _
    simp [L801_0]
  · intro B _ i b hi _ c hc
    have hm : maxLen = 9223372036854775807 := rfl
    have h1 : (i : Int) < l.length := by omega
    have h3 : IntKind.i64.wrap ((i : Int) + 1) = (i : Int) + 1 := wrI (by omega) (by omega)
    have hl : l[i].Legs.l.length ≤ maxLen := ((ho _ (List.getElem_mem hi)).2.2.2.2.2.2.2.2.1).1
    have hv := val883 T hT l[i] id hl
    obtain ⟨q, hq⟩ : ∃ q, tch id l[i] = q := ⟨_, rfl⟩
    rw [hq] at hv
    simp [L801_0, h1, hi]
    repeat' (refine brn_split (fun h => ?_) (fun h => ?_) <;> (try simp at h) <;> (try simp [h, h3, hv]))
    all_goals first
      | (have e : (fCnt id frm upto) i b l[i] = w64 (b + 1) := by
           simp [fCnt, *]
           try (intros; omega)
         rw [e]; exact hc _ _ _ trivial (by simp [gc, Fr.keep, reach, frRefs, heapRefs, PV.refs, place, gcH, orefs, Obj.refs, PV.ren, Obj.ren, Heap.obj, Fr.ren, gh, List.idxOf?_cons, w64]; try rfl))
      | (have e : (fCnt id frm upto) i b l[i] = b := by
           simp [fCnt, *]
           try (intros; omega)
         rw [e]; exact hc _ _ _ trivial (by simp [gc, Fr.keep, reach, frRefs, heapRefs, PV.refs, place, gcH, orefs, Obj.refs, PV.ren, Obj.ren, Heap.obj, Fr.ren, gh, List.idxOf?_cons]; try rfl))
theorem lp1039_0 (T : Tab) (hT : HV T) (l : List AEntry) (t : Bool) (id frm upto : Int) (hn : l.length ≤ maxLen) (ho : ∀ e ∈ l, e.ok) {k : KC (PV × Bool)} {fr : Fr} {H : Heap} (h0 : gc [0, 1, 2, 3, 9, 10] 0 ⟨fr, H⟩ = ⟨[(10, (.d (I (0 : Int)))), (9, (.d (I 0))), (3, (.d (I upto))), (2, (.d (I frm))), (1, (.d (I id))), (0, (.d (.l (K1 10) (l.map AEntry.dv) t)))], []⟩) :
    kC T.env 0 fr H (.h (.loop [0, 1, 2, 3, 9, 10] L1039_0, k)) = k (.exit 0) [(14, .d (.b false)), (10, (.d (I (l.length : Int)))), (9, (.d (I (foldN (fCnt id frm upto) 0 0 l)))), (3, (.d (I upto))), (2, (.d (I frm))), (1, (.d (I id))), (0, (.d (.l (K1 10) (l.map AEntry.dv) t)))] [] := by
  rw [loop_rounds l (fun i (b : Int) => ⟨[(10, (.d (I (i : Int)))), (9, (.d (I b))), (3, (.d (I upto))), (2, (.d (I frm))), (1, (.d (I id))), (0, (.d (.l (K1 10) (l.map AEntry.dv) t)))], []⟩) (fun _ _ => True) (fun i b x c => c (fCnt id frm upto i b x)) (fun b => k (.exit 0) [(14, .d (.b false)), (10, (.d (I (l.length : Int)))), (9, (.d (I b))), (3, (.d (I upto))), (2, (.d (I frm))), (1, (.d (I id))), (0, (.d (.l (K1 10) (l.map AEntry.dv) t)))] []) ?_ ?_ h0 trivial]
  · rw [rounds_fold (fCnt id frm upto) _ _ (fun _ _ _ _ => rfl)]
  · intro B _ b _
    simp [L1039_0]
  · intro B _ i b hi _ c hc
    have hm : maxLen = 9223372036854775807 := rfl
    have h1 : (i : Int) < l.length := by omega
    have h3 : IntKind.i64.wrap ((i : Int) + 1) = (i : Int) + 1 := wrI (by omega) (by omega)
    have hl : l[i].Legs.l.length ≤ maxLen := ((ho _ (List.getElem_mem hi)).2.2.2.2.2.2.2.2.1).1
    have hv := val1047 T hT l[i] id hl
    obtain ⟨q, hq⟩ : ∃ q, tch id l[i] = q := ⟨_, rfl⟩
    rw [hq] at hv
    simp [L1039_0, h1, hi]
    repeat' (refine brn_split (fun h => ?_) (fun h => ?_) <;> (try simp at h) <;> (try simp [h, h1, hi, h3, hv]))
    all_goals first
      | (have e : (fCnt id frm upto) i b l[i] = w64 (b + 1) := by
           simp [fCnt, *]
           try (intros; omega)
         rw [e]; exact hc _ _ _ trivial (by simp [gc, Fr.keep, reach, frRefs, heapRefs, PV.refs, gcH, PV.ren, Obj.ren, Heap.obj, Fr.ren, gh, w64]; try rfl))
      | (have e : (fCnt id frm upto) i b l[i] = b := by
           simp [fCnt, *]
           try (intros; omega)
         rw [e]; exact hc _ _ _ trivial (by simp [gc, Fr.keep, reach, frRefs, heapRefs, PV.refs, gcH, PV.ren, Obj.ren, Heap.obj, Fr.ren, gh]; try rfl))
theorem val1039 (T : Tab) (hT : HV T) (l : List AEntry) (t : Bool) (id frm upto : Int) (hn : l.length ≤ maxLen) (ho : ∀ e ∈ l, e.ok) : T.val 1039 [.l (K1 10) (l.map AEntry.dv) t, I id, I frm, I upto] = some (.d (I (cntN l id frm upto)), false) := by
  rw [val_k T (hT 1039 F1039 rfl) rfl]
  simp [F1039, Fr.ofArgs]
  refine (lp1039_0 T hT l t id frm upto hn ho (by simp [gc, Fr.keep, reach, frRefs, heapRefs, PV.refs, gcH, PV.ren, Obj.ren, Heap.obj, Fr.ren, gh])).trans ?_
  simp [cntN]
def lowL : List Int → Int
  | [] => 0
  | x :: r => r.foldl min x
theorem foldN_min : ∀ (r : List Int) (i : Nat) (b : Int), foldN (fun _ b x => min b x) i b r = r.foldl min b
  | [], _, _ => rfl
  | x :: r, i, b => by rw [foldN, foldN_min r, List.foldl_cons]
theorem lp881_0 (T : Tab) (x : Int) (l : List Int) (t : Bool) (hn : l.length < maxLen) {k : KC (PV × Bool)} {fr : Fr} {H : Heap} (h0 : gc [0, 3, 4] 0 ⟨fr, H⟩ = ⟨[(4, .d (I 1)), (3, .d (I x)), (0, .d (.l K0 (I x :: l.map I) t))], []⟩) :
    kC T.env 0 fr H (.h (.loop [0, 3, 4] L881_0, k)) = k (.exit 0) [(15, .d (.b false)), (4, .d (I (l.length + 1))), (3, .d (I (l.foldl min x))), (0, .d (.l K0 (I x :: l.map I) t))] [] := by
  have hm : maxLen = 9223372036854775807 := rfl
  rw [loop_rounds l (fun i (b : Int) => ⟨[(4, .d (I ((i : Int) + 1))), (3, .d (I b)), (0, .d (.l K0 (I x :: l.map I) t))], []⟩) (fun _ _ => True) (fun i b y c => c (min b y)) (fun b => k (.exit 0) [(15, .d (.b false)), (4, .d (I (l.length + 1))), (3, .d (I b)), (0, .d (.l K0 (I x :: l.map I) t))] []) ?_ ?_ (by simpa using h0) trivial]
  · rw [rounds_fold (fun _ b y => min b y) _ _ (fun _ _ _ _ => rfl), foldN_min]
  · intro B _ b _
    simp [L881_0]
  · intro B _ i b hi _ c hc
    have h1 : (i : Int) + 1 < l.length + 1 := by omega
    have h3 : IntKind.i64.wrap ((i : Int) + 1 + 1) = (i : Int) + 1 + 1 := wrI (by omega) (by omega)
    have h4 : (0 : Int) ≤ (i : Int) + 1 := by omega
    have h5 : ((i : Int) + 1).toNat = i + 1 := by omega
    simp [L881_0, h1, hi, h3, h4, ↓bo_mm2f]
    exact hc _ _ _ trivial (by simp [gc, Fr.keep, reach, frRefs, heapRefs, PV.refs, gcH, PV.ren, Obj.ren, Heap.obj, Fr.ren, gh])
theorem val881 (T : Tab) (hT : HV T) (x : Int) (l : List Int) (t : Bool) (hn : l.length < maxLen) : T.val 881 [.l K0 ((x :: l).map I) t] = some (.d (I (lowL (x :: l))), false) := by
  rw [val_k T (hT 881 F881 rfl) rfl]
  have h1 : ¬ ((l.length : Int) + 1 < 1) := by omega
  have h2 : (0 : Int) < (l.length : Int) + 1 := by omega
  have lp := fun k fr H => @lp881_0 T x l t hn k fr H
  simp [F881, Fr.ofArgs, h1, h2]
  refine (lp _ _ _ (by simp [gc, Fr.keep, reach, frRefs, heapRefs, PV.refs, gcH, PV.ren, Obj.ren, Heap.obj, Fr.ren, gh])).trans ?_
  simp [lowL]
def fLow (i : Nat) (b x : Int) : Int := if i = 0 ∨ x < b then x else b
theorem foldN_low : ∀ (r : List Int) (i : Nat) (b : Int), 0 < i → foldN fLow i b r = r.foldl min b
  | [], _, _, _ => rfl
  | x :: r, i, b, h => by
    rw [foldN, foldN_low r (i + 1) _ (by omega), List.foldl_cons]
    congr 1
    unfold fLow
    split <;> omega
theorem lowL_eq (l : List Int) : foldN fLow 0 0 l = lowL l := by
  cases l with
  | nil => rfl
  | cons x r => rw [foldN, foldN_low r 1 _ (by omega)]; simp [fLow, lowL]
theorem lp1036_0 (T : Tab) (l : List Int) (t : Bool) (hn : l.length ≤ maxLen) {k : KC (PV × Bool)} {fr : Fr} {H : Heap} (h0 : gc [0, 3, 4] 0 ⟨fr, H⟩ = ⟨[(4, (.d (I (0 : Int)))), (3, (.d (I 0))), (0, (.d (.l K0 (l.map I) t)))], []⟩) :
    kC T.env 0 fr H (.h (.loop [0, 3, 4] L1036_0, k)) = k (.exit 0) [(8, .d (.b false)), (4, (.d (I (l.length : Int)))), (3, (.d (I (foldN (fLow) 0 0 l)))), (0, (.d (.l K0 (l.map I) t)))] [] := by
  rw [loop_rounds l (fun i (b : Int) => ⟨[(4, (.d (I (i : Int)))), (3, (.d (I b))), (0, (.d (.l K0 (l.map I) t)))], []⟩) (fun _ _ => True) (fun i b x c => c (fLow i b x)) (fun b => k (.exit 0) [(8, .d (.b false)), (4, (.d (I (l.length : Int)))), (3, (.d (I b))), (0, (.d (.l K0 (l.map I) t)))] []) ?_ ?_ h0 trivial]
  · rw [rounds_fold (fLow) _ _ (fun _ _ _ _ => rfl)]
  · intro B _ b _
    simp [L1036_0]
  · intro B _ i b hi _ c hc
    have hm : maxLen = 9223372036854775807 := rfl
    have h1 : (i : Int) < l.length := by omega
    have h3 : IntKind.i64.wrap ((i : Int) + 1) = (i : Int) + 1 := wrI (by omega) (by omega)
    rcases Nat.eq_zero_or_pos i with rfl | h0i
    · have e : fLow 0 b l[0] = l[0] := by simp [fLow]
      rw [e]
      have w1 : IntKind.i64.wrap 1 = 1 := rfl
      simp [L1036_0, hi, w1]
      exact hc _ _ _ trivial (by simp [gc, Fr.keep, reach, frRefs, heapRefs, PV.refs, gcH, PV.ren, Obj.ren, Heap.obj, Fr.ren, gh])
    · have hne : ((i : Int) == 0) = false := by simp; omega
      have hne2 : i ≠ 0 := by omega
      simp [L1036_0, h1, hi, hne]
      repeat' (refine brn_split (fun h => ?_) (fun h => ?_) <;> (try simp at h) <;> (try simp [h1, hi, h3]))
      all_goals first
        | (have e : fLow i b l[i] = l[i] := by
             simp [fLow, *]
             done
           rw [e]; exact hc _ _ _ trivial (by simp [gc, Fr.keep, reach, frRefs, heapRefs, PV.refs, gcH, PV.ren, Obj.ren, Heap.obj, Fr.ren, gh]))
        | (have e : fLow i b l[i] = b := by
             simp [fLow, *]
             try (intros; omega)
           rw [e]; exact hc _ _ _ trivial (by simp [gc, Fr.keep, reach, frRefs, heapRefs, PV.refs, gcH, PV.ren, Obj.ren, Heap.obj, Fr.ren, gh]))
theorem val1036 (T : Tab) (hT : HV T) (l : List Int) (t : Bool) (hn : l.length ≤ maxLen) : T.val 1036 [.l K0 (l.map I) t] = some (.d (I (lowL l)), false) := by
  rw [val_k T (hT 1036 F1036 rfl) rfl, ← lowL_eq]
  have lp := fun k fr H => @lp1036_0 T l t hn k fr H
  simp [F1036, Fr.ofArgs]
  refine (lp _ _ _ (by simp [gc, Fr.keep, reach, frRefs, heapRefs, PV.refs, gcH, PV.ren, Obj.ren, Heap.obj, Fr.ren, gh])).trans ?_
  simp
end Go.Sim
end
section
namespace Go.Sim
set_option maxRecDepth 10000
set_option maxHeartbeats 4000000
structure MvY (Y : Nat → List PV → Heap → Option (PV × Heap)) (σ : Type) (HS : σ → Heap) (m o pj pa : Nat) (j : List AEntry) (t : Bool) (acc : Int) (P : σ → Prop) (f : σ → AEntry → ALeg → σ) : Prop where
 len : ∀ s, (HS s).length = m
 cl : ∀ s, Cl (HS s)
 oj : ∀ s J, Heap.obj (HS s ++ J) pj = some (.box K0 (.d (.l (K1 10) (j.map AEntry.dv) t)))
 oa : ∀ s J, Heap.obj (HS s ++ J) pa = some (.box K0 (.d (I acc)))
 lo : o < m ∧ pj < m ∧ pa < m
 hp : ∀ s e x, P s → e ∈ j → x ∈ e.Legs.l → P (f s e x)
 y : ∀ s e x, P s → e ∈ j → x ∈ e.Legs.l → x.Account = acc → Y o [.d e.dv, .d (I x.Amount)] (HS s ++ [some (.box (K1 10) (.d e.dv)), some (.box (K1 3) (.d x.dv))]) = some (.d (.b true), HS (f s e x) ++ [some (.box (K1 10) (.d e.dv)), some (.box (K1 3) (.d x.dv))])
def mvL {σ : Type} (acc : Int) (f : σ → AEntry → ALeg → σ) (e : AEntry) (_ : Nat) (s : σ) (x : ALeg) : σ := if x.Account = acc then f s e x else s
def mvE {σ : Type} (acc : Int) (f : σ → AEntry → ALeg → σ) (_ : Nat) (s : σ) (e : AEntry) : σ := foldN (mvL acc f e) 0 s e.Legs.l
section
variable {Y : Nat → List PV → Heap → Option (PV × Heap)} {σ : Type} {HS : σ → Heap} {m o pj pa : Nat} {j : List AEntry} {t : Bool} {acc : Int} {P : σ → Prop} {f : σ → AEntry → ALeg → σ}
theorem lp59_0 (T : Tab) (h : MvY Y σ HS m o pj pa j t acc P f) (e : AEntry) (he : e ∈ j) (hn : e.Legs.l.length ≤ maxLen) (oi : Nat) (s0 : σ) (hs0 : P s0) {k : KC (PV × Heap)} {fr : Fr} {H : Heap}
  (h0 : gc [0, 2, 5, 8, 9, 10, 15, 16, 17] m ⟨fr, H⟩ = ⟨[(17, .d (I 0)), (16, .d (I e.Legs.l.length)), (15, .d (.l (K1 3) (e.Legs.l.map ALeg.dv) e.Legs.t)), (10, .d (I oi)), (9, .d (I j.length)), (8, .d (.l (K1 10) (j.map AEntry.dv) t)), (5, .p m 0 0), (2, .p pa 0 0), (0, .h o)], HS s0 ++ [some (.box (K1 10) (.d e.dv))]⟩) :
  kC (T.envY Y) m fr H (.h (.loop [0, 2, 5, 8, 9, 10, 15, 16, 17] L59_0, k)) = k (.exit 2) [(18, .d (.b false)), (17, .d (I e.Legs.l.length)), (16, .d (I e.Legs.l.length)), (15, .d (.l (K1 3) (e.Legs.l.map ALeg.dv) e.Legs.t)), (10, .d (I oi)), (9, .d (I j.length)), (8, .d (.l (K1 10) (j.map AEntry.dv) t)), (5, .p m 0 0), (2, .p pa 0 0), (0, .h o)] (HS (foldN (mvL acc f e) 0 s0 e.Legs.l) ++ [some (.box (K1 10) (.d e.dv))]) := by
 have hm : maxLen = 9223372036854775807 := rfl
 rw [loop_rounds e.Legs.l (fun i (s : σ) => ⟨[(17, .d (I i)), (16, .d (I e.Legs.l.length)), (15, .d (.l (K1 3) (e.Legs.l.map ALeg.dv) e.Legs.t)), (10, .d (I oi)), (9, .d (I j.length)), (8, .d (.l (K1 10) (j.map AEntry.dv) t)), (5, .p m 0 0), (2, .p pa 0 0), (0, .h o)], HS s ++ [some (.box (K1 10) (.d e.dv))]⟩) (fun _ s => P s) (fun i s x c => c (mvL acc f e i s x)) (fun s => k (.exit 2) [(18, .d (.b false)), (17, .d (I e.Legs.l.length)), (16, .d (I e.Legs.l.length)), (15, .d (.l (K1 3) (e.Legs.l.map ALeg.dv) e.Legs.t)), (10, .d (I oi)), (9, .d (I j.length)), (8, .d (.l (K1 10) (j.map AEntry.dv) t)), (5, .p m 0 0), (2, .p pa 0 0), (0, .h o)] (HS s ++ [some (.box (K1 10) (.d e.dv))])) ?_ ?_ h0 hs0]
 ·rw [rounds_fold (mvL acc f e) _ _ (fun _ _ _ _ => rfl)]
 ·intro B _ s _
  simp [L59_0]
 ·intro B _ i s hi hs c hc
  have h1 : (i : Int) < e.Legs.l.length := by omega
  have h3 : IntKind.i64.wrap ((i : Int) + 1) = (i : Int) + 1 := wrI (by omega) (by omega)
  have hx : e.Legs.l[i] ∈ e.Legs.l := List.getElem_mem hi
  have hl := h.len s
  have hoa := h.oa s
  have ho0 : ∀ J, Heap.obj (HS s ++ J) m = Heap.obj J 0 := fun J => by rw [← hl]; exact obj_app0 _ _
  have ho1 : ∀ J, Heap.obj (HS s ++ J) (m + 1) = Heap.obj J 1 := fun J => by rw [← hl]; exact obj_app _ _ 1
  have hp1 : ∀ J v, Heap.put (HS s ++ J) (m + 1) v = HS s ++ Heap.put J 1 v := fun J v => by rw [← hl]; exact put_app _ _ _ 1
  simp [L59_0, h1, hi, hl, hoa, ho1, hp1]
  refine brn_split (fun g => ?_) (fun g => ?_)
  ·have g' : e.Legs.l[i].Account = acc := by simpa using g
   have hy := h.y s e e.Legs.l[i] hs he hx g'
   have hs' := h.hp s e e.Legs.l[i] hs he hx
   have hl' := h.len (f s e e.Legs.l[i])
   simp [g, h3, hl, ho0, ho1, hp1, hy, ↓callvK_h, envY_yld]
   have e1 : mvL acc f e i s e.Legs.l[i] = f s e e.Legs.l[i] := by simp [mvL, g']
   rw [e1]
   refine hc _ _ _ hs' ?_
   rw [← hl', gc_one _ (h.cl _) rfl (by simp [Fr.keep, frRefs, gh, PV.refs]) (by simp [Fr.keep, frRefs, gh, PV.refs, hl']; have := h.lo; omega) (by simp [Fr.keep, frRefs, gh, PV.refs, hl'])]
   simp [Fr.keep, gh, hl']
  ·have g' : ¬ e.Legs.l[i].Account = acc := by simpa using g
   simp [g, h3, hl, hp1]
   have e1 : mvL acc f e i s e.Legs.l[i] = s := by simp [mvL, g']
   rw [e1]
   refine hc _ _ _ hs ?_
   rw [← hl, gc_one _ (h.cl _) rfl (by simp [Fr.keep, frRefs, gh, PV.refs]) (by simp [Fr.keep, frRefs, gh, PV.refs, hl]; have := h.lo; omega) (by simp [Fr.keep, frRefs, gh, PV.refs, hl])]
   simp [Fr.keep, gh, hl]
theorem mvE_P (h : MvY Y σ HS m o pj pa j t acc P f) {e : AEntry} (he : e ∈ j) {s : σ} (hs : P s) : P (foldN (mvL acc f e) 0 s e.Legs.l) := by
 have key : ∀ (l : List ALeg) (i : Nat) (s : σ), P s → (∀ x ∈ l, x ∈ e.Legs.l) → P (foldN (mvL acc f e) i s l) := by
  intro l
  induction l with
  | nil => intro i s hs _; exact hs
  | cons x l ih =>
   intro i s hs hl
   rw [foldN]
   refine ih _ _ ?_ fun y hy => hl y (List.mem_cons_of_mem _ hy)
   unfold mvL
   split
   ·exact h.hp s e x hs he (hl x (List.mem_cons_self ..))
   ·exact hs
 exact key _ _ _ hs fun _ hx => hx
theorem lp59_1 (T : Tab) (h : MvY Y σ HS m o pj pa j t acc P f) (hn : j.length ≤ maxLen) (ho : ∀ e ∈ j, e.Legs.l.length ≤ maxLen) (s0 : σ) (hs0 : P s0) {k : KC (PV × Heap)} {fr : Fr} {H : Heap}
  (h0 : gc [0, 2, 8, 9, 10] m ⟨fr, H⟩ = ⟨[(10, .d (I 0)), (9, .d (I j.length)), (8, .d (.l (K1 10) (j.map AEntry.dv) t)), (2, .p pa 0 0), (0, .h o)], HS s0⟩) :
  kC (T.envY Y) m fr H (.h (.loop [0, 2, 8, 9, 10] L59_1, k)) = k (.exit 0) [(11, .d (.b false)), (10, .d (I j.length)), (9, .d (I j.length)), (8, .d (.l (K1 10) (j.map AEntry.dv) t)), (2, .p pa 0 0), (0, .h o)] (HS (foldN (mvE acc f) 0 s0 j)) := by
 have hm : maxLen = 9223372036854775807 := rfl
 rw [loop_rounds j (fun i (s : σ) => ⟨[(10, .d (I i)), (9, .d (I j.length)), (8, .d (.l (K1 10) (j.map AEntry.dv) t)), (2, .p pa 0 0), (0, .h o)], HS s⟩) (fun _ s => P s) (fun i s x c => c (mvE acc f i s x)) (fun s => k (.exit 0) [(11, .d (.b false)), (10, .d (I j.length)), (9, .d (I j.length)), (8, .d (.l (K1 10) (j.map AEntry.dv) t)), (2, .p pa 0 0), (0, .h o)] (HS s)) ?_ ?_ h0 hs0]
 ·rw [rounds_fold (mvE acc f) _ _ (fun _ _ _ _ => rfl)]
 ·intro B _ s _
  simp [L59_1]
 ·intro B _ i s hi hs c hc
  have h1 : (i : Int) < j.length := by omega
  have h3 : IntKind.i64.wrap ((i : Int) + 1) = (i : Int) + 1 := wrI (by omega) (by omega)
  have he : j[i] ∈ j := List.getElem_mem hi
  have hl := h.len s
  have ho0 : ∀ J, Heap.obj (HS s ++ J) m = Heap.obj J 0 := fun J => by rw [← hl]; exact obj_app0 _ _
  have hp0 : ∀ J v, Heap.put (HS s ++ J) m v = HS s ++ Heap.put J 0 v := fun J v => by rw [← hl]; exact put_app0 _ _ _
  have lp := fun k fr H => @lp59_0 Y σ HS m o pj pa j t acc P f T h j[i] he (ho _ he) i s hs k fr H
  simp [L59_1, h1, hi, hl, ho0, hp0]
  rw [lp]
  ·simp [h3]
   have hs' := mvE_P h he hs
   have hl' := h.len (foldN (mvL acc f j[i]) 0 s j[i].Legs.l)
   refine (hc _ _ _ hs' ?_).trans rfl
   rw [← hl', gc_low _ (h.cl _) (by simp [Fr.keep, frRefs, gh, PV.refs, hl']; have := h.lo; omega)]
   simp [Fr.keep, gh]
  ·rw [← hl, gc_one _ (h.cl _) rfl (by simp [Fr.keep, frRefs, gh, PV.refs]) (by simp [Fr.keep, frRefs, gh, PV.refs, hl]; have := h.lo; omega) (by simp [Fr.keep, frRefs, gh, PV.refs, hl])]
   simp [Fr.keep, gh, hl]
theorem it59 (T : Tab) (hT : HU T) (h : MvY Y σ HS m o pj pa j t acc P f) (hn : j.length ≤ maxLen) (ho : ∀ e ∈ j, e.Legs.l.length ≤ maxLen) (s0 : σ) (hs0 : P s0) :
  T.it Y 59 [.h o, .p pj 0 0, .p pa 0 0] (HS s0) = some (.t [], HS (foldN (mvE acc f) 0 s0 j)) := by
 rw [it_k T (hT 59 F59 rfl) Y rfl]
 have lp := fun k fr H => @lp59_1 Y σ HS m o pj pa j t acc P f T h hn ho s0 hs0 k fr H
 have hl := h.len s0
 have hoj : Heap.obj (HS s0) pj = some (.box K0 (.d (.l (K1 10) (j.map AEntry.dv) t))) := by have := h.oj s0 []; rwa [List.append_nil] at this
 simp [F59, Fr.ofArgs, hl, hoj]
 rw [lp]
 ·simp [finR_norm]
  rw [hl, ← h.len (foldN (mvE acc f) 0 s0 j)]
  exact gcV_self (h.cl _) (by simp [packed, PV.refs, PV.refsL])
 ·rw [← hl, gc_low0 _ (h.cl _) (by simp [Fr.keep, frRefs, gh, PV.refs, hl]; have := h.lo; omega)]
  simp [Fr.keep, gh]
end
end Go.Sim
end
section
namespace Go.Sim
set_option maxRecDepth 10000
set_option maxHeartbeats 4000000
theorem ref50 (T : Tab) (hT : HU T) (j : List AEntry) (t : Bool) (acc : Int) (k0 : K) (v0 : DV) : T.ref 50 [.d (.l (K1 10) (j.map AEntry.dv) t), .d (I acc)] [some (.box k0 (.d v0))] = some (.f 59 [.p 1 0 0, .p 2 0 0], [some (.box k0 (.d v0)), some (.box K0 (.d (.l (K1 10) (j.map AEntry.dv) t))), some (.box K0 (.d (I acc)))]) := by
 rw [ref_k T (hT 50 F50 rfl) rfl]
 simp [F50, Fr.ofArgs, finR_ret, gcV, reach, heapRefs, orefs, Obj.refs, PV.refs, PV.refsL, place, gcH, PV.ren, PV.renL, Obj.ren, Heap.obj, List.idxOf?_cons]
def hsOf (j : List AEntry) (t : Bool) (acc : Int) (s : Int) : Heap := [some (.box K0 (.d (I s))), some (.box K0 (.d (.l (K1 10) (j.map AEntry.dv) t))), some (.box K0 (.d (I acc))), some (.lp 0 none), some .df]
def fOf (s : Int) (_ : AEntry) (x : ALeg) : Int := w64 (s - x.Amount)
def ofP (j : List AEntry) (acc : Int) : Int := foldN (mvE acc fOf) 0 0 j
theorem mvOf (T : Tab) (_hT : HU T) (j : List AEntry) (t : Bool) (acc : Int) : MvY (rngK T.env L715_0 L715_1 [(5, .p 0 0 0)] 3 [11, 12]) Int (hsOf j t acc) 5 3 1 2 j t acc (fun _ => True) fOf where
 len _ := rfl
 cl _ := by intro r h; simp [hsOf, heapRefs, orefs, Obj.refs, PV.refs] at h
 oj _ _ := rfl
 oa _ _ := rfl
 lo := ⟨by decide, by decide, by decide⟩
 hp _ _ _ _ _ _ := trivial
 y s e x _ _ _ _ := by
  rw [rngK_go rfl rfl]
  simp [L715_0, L715_1, hsOf, setA]
  exact gcV_self (H := hsOf j t acc (fOf s e x) ++ [some (.box (K1 10) (.d e.dv)), some (.box (K1 3) (.d x.dv))]) (by intro r h; simp [hsOf, heapRefs, orefs, Obj.refs, PV.refs] at h) (v := .d (.b true)) (by simp [PV.refs])
theorem val715 (T : Tab) (hT : HU T) (l : List AEntry) (t : Bool) (acc : Int) (hn : l.length ≤ maxLen) (ho : ∀ e ∈ l, e.Legs.l.length ≤ maxLen) : T.val 715 [.l (K1 10) (l.map AEntry.dv) t, I acc] = some (.d (I (ofP l acc)), false) := by
 rw [val_k T (hT 715 F715 rfl) rfl]
 have e := ref50 T hT l t acc K0 (I 0)
 have e2 := it59 T hT (mvOf T hT l t acc) hn ho 0 trivial
 simp [F715, Fr.ofArgs, e, ↓kC_rng, ↓rngS_f, env_it, Fr.only]
 refine (congrArg (fun z => bo z _) e2).trans ?_
 simp [rngE, hsOf, fin, runG]
 rfl
theorem w64_add (a b : Int) : w64 (w64 a + b) = w64 (a + b) := by
 unfold w64; rw [IntKind.wrap_i64, IntKind.wrap_i64, IntKind.wrap_i64]; omega
theorem w64_add' (a b : Int) : w64 (a + w64 b) = w64 (a + b) := by rw [Int.add_comm, w64_add, Int.add_comm]
theorem w64_idem (a : Int) : w64 (w64 a) = w64 a := by have := w64_add a 0; simpa using this
theorem mov_shift (acc s : Int) : ∀ (l : List ALeg) (i : Nat) (d : Int), foldN (fMov acc) i (w64 (s + d)) l = w64 (s + foldN (fMov acc) i (w64 d) l)
 | [], i, d => by simp only [foldN]; rw [w64_add']
 | x :: l, i, d => by
  simp only [foldN]
  by_cases h : (x.Account == acc) = true
  ·have e1 : fMov acc i (w64 (s + d)) x = w64 (s + (d - x.Amount)) := by
    simp only [fMov, h, if_true, Int.sub_eq_add_neg, w64_add, Int.add_assoc]
   have e2 : fMov acc i (w64 d) x = w64 (d - x.Amount) := by
    simp only [fMov, h, if_true, Int.sub_eq_add_neg, w64_add]
   rw [e1, e2, mov_shift acc s l (i + 1)]
  ·have e1 : fMov acc i (w64 (s + d)) x = w64 (s + d) := by simp only [fMov, if_neg h]
   have e2 : fMov acc i (w64 d) x = w64 d := by simp only [fMov, if_neg h]
   rw [e1, e2, mov_shift acc s l (i + 1)]
theorem mvL_fMov (acc : Int) (e : AEntry) : ∀ (l : List ALeg) (i : Nat) (s : Int), foldN (mvL acc fOf e) i s l = foldN (fMov acc) i s l
 | [], _, _ => rfl
 | x :: l, i, s => by
  have : mvL acc fOf e i s x = fMov acc i s x := by by_cases h : x.Account = acc <;> simp [mvL, fMov, fOf, h]
  rw [foldN, foldN, this, mvL_fMov acc e l]
theorem of_eq (acc : Int) : ∀ (l : List AEntry) (i : Nat) (n : Int), w64 n = n → foldN (mvE acc fOf) i n l = foldN (fOfR acc) i n l
 | [], _, _, _ => rfl
 | e :: l, i, n, h => by
  have e1 : mvE acc fOf i n e = fOfR acc i n e := by
   unfold mvE fOfR movedE
   rw [mvL_fMov]
   have := mov_shift acc n e.Legs.l 0 0
   rw [Int.add_zero, h, show w64 0 = 0 from rfl] at this
   exact this
  rw [foldN, foldN, e1]
  exact of_eq acc l (i + 1) _ (w64_idem _)
theorem ofP_eq (l : List AEntry) (acc : Int) : ofP l acc = ofR l acc := of_eq acc l 0 0 rfl
end Go.Sim
end
section
namespace Go.Sim
set_option maxRecDepth 10000
set_option maxHeartbeats 4000000
theorem dcells_a (l : List DV) : DV.cells (.a l) = l := rfl
end Go.Sim
end
section
namespace Go.Sim
set_option maxRecDepth 10000
set_option maxHeartbeats 4000000
theorem ref50_4 (T : Tab) (hT : HU T) (j : List AEntry) (t : Bool) (acc : Int) (k0 k1 k2 k3 : K) (v0 v1 v2 v3 : DV) : T.ref 50 [.d (.l (K1 10) (j.map AEntry.dv) t), .d (I acc)] [some (.box k0 (.d v0)), some (.box k1 (.d v1)), some (.box k2 (.d v2)), some (.box k3 (.d v3))] = some (.f 59 [.p 4 0 0, .p 5 0 0], [some (.box k0 (.d v0)), some (.box k1 (.d v1)), some (.box k2 (.d v2)), some (.box k3 (.d v3)), some (.box K0 (.d (.l (K1 10) (j.map AEntry.dv) t))), some (.box K0 (.d (I acc)))]) := by
  rw [ref_k T (hT 50 F50 rfl) rfl]
  simp [F50, Fr.ofArgs, finR_ret, gcV, reach, heapRefs, orefs, Obj.refs, PV.refs, PV.refsL, place, gcH, PV.ren, PV.renL, Obj.ren, Heap.obj, List.idxOf?_cons]
abbrev DC := Int × Int
def fTo (frm upto : Int) (s : DC) (e : AEntry) (x : ALeg) : DC := if e.Booked < frm ∨ upto < e.Booked then s else if 0 < x.Amount then (w64 (s.1 + x.Amount), s.2) else (s.1, w64 (s.2 - x.Amount))
def hsTo (frm upto : Int) (j : List AEntry) (t : Bool) (acc : Int) (s : DC) : Heap := [some (.box K0 (.d (I frm))), some (.box K0 (.d (I upto))), some (.box K0 (.d (I s.1))), some (.box K0 (.d (I s.2))), some (.box K0 (.d (.l (K1 10) (j.map AEntry.dv) t))), some (.box K0 (.d (I acc))), some (.lp 0 none), some .df]
theorem mvTo (T : Tab) (_hT : HU T) (frm upto : Int) (j : List AEntry) (t : Bool) (acc : Int) : MvY (rngK T.env L882_0 L882_1 [(11, .p 3 0 0), (10, .p 2 0 0), (7, .p 1 0 0), (6, .p 0 0 0)] 6 [17, 18]) DC (hsTo frm upto j t acc) 8 6 4 5 j t acc (fun _ => True) (fTo frm upto) where
  len _ := rfl
  cl _ := by intro r h; simp [hsTo, heapRefs, orefs, Obj.refs, PV.refs] at h
  oj _ _ := rfl
  oa _ _ := rfl
  lo := ⟨by decide, by decide, by decide⟩
  hp _ _ _ _ _ _ := trivial
  y s e x _ _ _ _ := by
    rw [rngK_go rfl rfl]
    simp [L882_0, L882_1, hsTo, setA]
    repeat' (refine brn_split (fun h => ?_) (fun h => ?_) <;> (try simp at h) <;> (try simp [h]))
    all_goals first
      | (have ef : fTo frm upto s e x = s := by rw [fTo, if_pos (by omega)]
         rw [ef]
         exact gcV_self (H := hsTo frm upto j t acc s ++ [some (.box (K1 10) (.d e.dv)), some (.box (K1 3) (.d x.dv))]) (by intro r h; simp [hsTo, heapRefs, orefs, Obj.refs, PV.refs] at h) (v := .d (.b true)) (by simp [PV.refs]))
      | (have ef : fTo frm upto s e x = (w64 (s.1 + x.Amount), s.2) := by rw [fTo, if_neg (by omega), if_pos (by omega)]
         rw [ef]
         exact gcV_self (H := hsTo frm upto j t acc (w64 (s.1 + x.Amount), s.2) ++ [some (.box (K1 10) (.d e.dv)), some (.box (K1 3) (.d x.dv))]) (by intro r h; simp [hsTo, heapRefs, orefs, Obj.refs, PV.refs] at h) (v := .d (.b true)) (by simp [PV.refs]))
      | (have ef : fTo frm upto s e x = (s.1, w64 (s.2 - x.Amount)) := by rw [fTo, if_neg (by omega), if_neg (by omega)]
         rw [ef]
         exact gcV_self (H := hsTo frm upto j t acc (s.1, w64 (s.2 - x.Amount)) ++ [some (.box (K1 10) (.d e.dv)), some (.box (K1 3) (.d x.dv))]) (by intro r h; simp [hsTo, heapRefs, orefs, Obj.refs, PV.refs] at h) (v := .d (.b true)) (by simp [PV.refs]))
theorem val882 (T : Tab) (hT : HU T) (hV : HV T) (l : List AEntry) (t : Bool) (acc frm upto : Int) (hn : l.length ≤ maxLen) (ho : ∀ e ∈ l, e.Legs.l.length ≤ maxLen) : T.val 882 [.l (K1 10) (l.map AEntry.dv) t, I acc, I frm, I upto] = some (.t [.d (I (foldN (mvE acc (fTo frm upto)) 0 (0, 0) l).1), .d (I (foldN (mvE acc (fTo frm upto)) 0 (0, 0) l).2)], false) := by
  rw [val_k T (hV 882 F882 rfl) rfl]
  have e := ref50_4 T hT l t acc K0 K0 K0 K0 (I frm) (I upto) (I 0) (I 0)
  have e2 := it59 T hT (mvTo T hT frm upto l t acc) hn ho (0, 0) trivial
  simp [F882, Fr.ofArgs, e, ↓kC_rng, ↓rngS_f, env_it, Fr.only]
  refine (congrArg (fun z => bo z _) e2).trans ?_
  simp [rngE, hsTo, fin, runG, ↓kC_regD, ↓kDq_nil, ↓kDq_O, ↓aftD_go, nfp_go, ↓d_mov, ↓d_load, accD, writeS, touchS, footD, storeD, chg, roOf, runs, pairsD, disj, PV.refs, IOp.okD, Nat.testBit]
  try rfl
def fTr (acc : Int) (_ : Nat) (s : DC) (x : ALeg) : DC := if x.Account = acc ∧ 0 < x.Amount then (w64 (s.1 + x.Amount), s.2) else if x.Account = acc ∧ x.Amount < 0 then (s.1, w64 (s.2 - x.Amount)) else s
def fTR (acc frm upto : Int) (_ : Nat) (s : DC) (e : AEntry) : DC := if e.Booked < frm ∨ upto < e.Booked then s else foldN (fTr acc) 0 s e.Legs.l
def turn (j : List AEntry) (acc frm upto : Int) : DC := foldN (fTR acc frm upto) 0 (0, 0) j
theorem lp1035_0 (T : Tab) (l : List AEntry) (t : Bool) (acc frm upto : Int) (s0 : DC) (oi : Nat) (hoi : oi < l.length) (hn : l[oi].Legs.l.length ≤ maxLen) {k : KC (PV × Bool)} {fr : Fr} {H : Heap} (h0 : gc [0, 1, 2, 3, 10, 11, 12, 13] 0 ⟨fr, H⟩ = ⟨[(13, (.d (I (0 : Int)))), (12, (.d (I oi))), (11, (.d (I s0.2))), (10, (.d (I s0.1))), (3, (.d (I upto))), (2, (.d (I frm))), (1, (.d (I acc))), (0, (.d (.l (K1 10) (l.map AEntry.dv) t)))], []⟩) :
    kC T.env 0 fr H (.h (.loop [0, 1, 2, 3, 10, 11, 12, 13] L1035_0, k)) = k (.exit 2) [(44, .d (.b false)), (13, (.d (I (l[oi].Legs.l.length : Int)))), (12, (.d (I oi))), (11, (.d (I (foldN (fTr acc) 0 s0 l[oi].Legs.l).2))), (10, (.d (I (foldN (fTr acc) 0 s0 l[oi].Legs.l).1))), (3, (.d (I upto))), (2, (.d (I frm))), (1, (.d (I acc))), (0, (.d (.l (K1 10) (l.map AEntry.dv) t)))] [] := by
  rw [loop_rounds l[oi].Legs.l (fun i (b : DC) => ⟨[(13, (.d (I (i : Int)))), (12, (.d (I oi))), (11, (.d (I b.2))), (10, (.d (I b.1))), (3, (.d (I upto))), (2, (.d (I frm))), (1, (.d (I acc))), (0, (.d (.l (K1 10) (l.map AEntry.dv) t)))], []⟩) (fun _ _ => True) (fun i b x c => c (fTr acc i b x)) (fun b => k (.exit 2) [(44, .d (.b false)), (13, (.d (I (l[oi].Legs.l.length : Int)))), (12, (.d (I oi))), (11, (.d (I b.2))), (10, (.d (I b.1))), (3, (.d (I upto))), (2, (.d (I frm))), (1, (.d (I acc))), (0, (.d (.l (K1 10) (l.map AEntry.dv) t)))] []) ?_ ?_ (b0 := s0) h0 trivial]
  · rw [rounds_fold (fTr acc) _ _ (fun _ _ _ _ => rfl)]
  · intro B _ b _
    have hoi2 : (oi : Int) < l.length := by omega
    simp [L1035_0, hoi, hoi2]
  · intro B _ i b hi _ c hc
    have hm : maxLen = 9223372036854775807 := rfl
    have h1 : (i : Int) < l[oi].Legs.l.length := by omega
    have h3 : IntKind.i64.wrap ((i : Int) + 1) = (i : Int) + 1 := wrI (by omega) (by omega)
    have hoi2 : (oi : Int) < l.length := by omega
    simp [L1035_0, h1, hi, hoi, hoi2]
    repeat' (refine brn_split (fun h => ?_) (fun h => ?_) <;> (try simp at h) <;> (try simp [h, h3]))
    all_goals first
      | (exfalso; omega)
      | (have e : fTr acc i b l[oi].Legs.l[i] = (w64 (b.1 + l[oi].Legs.l[i].Amount), b.2) := by rw [fTr, if_pos (by omega)]
         rw [e]; exact hc _ _ _ trivial (by simp [gc, Fr.keep, reach, frRefs, heapRefs, PV.refs, gcH, PV.ren, Obj.ren, Heap.obj, Fr.ren, gh, w64]; try rfl))
      | (have e : fTr acc i b l[oi].Legs.l[i] = (b.1, w64 (b.2 - l[oi].Legs.l[i].Amount)) := by rw [fTr, if_neg (by omega), if_pos (by omega)]
         rw [e]; exact hc _ _ _ trivial (by simp [gc, Fr.keep, reach, frRefs, heapRefs, PV.refs, gcH, PV.ren, Obj.ren, Heap.obj, Fr.ren, gh, w64]; try rfl))
      | (have e : fTr acc i b l[oi].Legs.l[i] = b := by rw [fTr, if_neg (by omega), if_neg (by omega)]
         rw [e]; exact hc _ _ _ trivial (by simp [gc, Fr.keep, reach, frRefs, heapRefs, PV.refs, gcH, PV.ren, Obj.ren, Heap.obj, Fr.ren, gh]; try rfl))
theorem lp1035_1 (T : Tab) (l : List AEntry) (t : Bool) (acc frm upto : Int) (hn : l.length ≤ maxLen) (ho : ∀ e ∈ l, e.Legs.l.length ≤ maxLen) {k : KC (PV × Bool)} {fr : Fr} {H : Heap} (h0 : gc [0, 1, 2, 3, 10, 11, 12] 0 ⟨fr, H⟩ = ⟨[(12, (.d (I (0 : Int)))), (11, (.d (I (0, 0).2))), (10, (.d (I (0, 0).1))), (3, (.d (I upto))), (2, (.d (I frm))), (1, (.d (I acc))), (0, (.d (.l (K1 10) (l.map AEntry.dv) t)))], []⟩) :
    kC T.env 0 fr H (.h (.loop [0, 1, 2, 3, 10, 11, 12] L1035_1, k)) = k (.exit 0) [(18, .d (.b false)), (12, (.d (I (l.length : Int)))), (11, (.d (I (foldN (fTR acc frm upto) 0 (0, 0) l).2))), (10, (.d (I (foldN (fTR acc frm upto) 0 (0, 0) l).1))), (3, (.d (I upto))), (2, (.d (I frm))), (1, (.d (I acc))), (0, (.d (.l (K1 10) (l.map AEntry.dv) t)))] [] := by
  rw [loop_rounds l (fun i (b : DC) => ⟨[(12, (.d (I (i : Int)))), (11, (.d (I b.2))), (10, (.d (I b.1))), (3, (.d (I upto))), (2, (.d (I frm))), (1, (.d (I acc))), (0, (.d (.l (K1 10) (l.map AEntry.dv) t)))], []⟩) (fun _ _ => True) (fun i b x c => c (fTR acc frm upto i b x)) (fun b => k (.exit 0) [(18, .d (.b false)), (12, (.d (I (l.length : Int)))), (11, (.d (I b.2))), (10, (.d (I b.1))), (3, (.d (I upto))), (2, (.d (I frm))), (1, (.d (I acc))), (0, (.d (.l (K1 10) (l.map AEntry.dv) t)))] []) ?_ ?_ (b0 := (0, 0)) h0 trivial]
  · rw [rounds_fold (fTR acc frm upto) _ _ (fun _ _ _ _ => rfl)]
  · intro B _ b _
    simp [L1035_1]
  · intro B _ i b hi _ c hc
    have hm : maxLen = 9223372036854775807 := rfl
    have h1 : (i : Int) < l.length := by omega
    have h3 : IntKind.i64.wrap ((i : Int) + 1) = (i : Int) + 1 := wrI (by omega) (by omega)
    simp [L1035_1, h1, hi]
    repeat' (refine brn_split (fun h => ?_) (fun h => ?_) <;> (try simp at h) <;> (try simp [h, h1, hi, h3]))
    all_goals try
      ((have e : fTR acc frm upto i b l[i] = b := by rw [fTR, if_pos (by omega)]
        rw [e]; exact hc _ _ _ trivial (by simp [gc, Fr.keep, reach, frRefs, heapRefs, PV.refs, gcH, PV.ren, Obj.ren, Heap.obj, Fr.ren, gh]; try rfl)))
    have e : fTR acc frm upto i b l[i] = foldN (fTr acc) 0 b l[i].Legs.l := by rw [fTR, if_neg (by omega)]
    rw [e]
    have lp := fun k fr H => @lp1035_0 T l t acc frm upto b i hi (ho _ (List.getElem_mem hi)) k fr H
    rw [lp]
    · simp [h3]
      exact hc _ _ _ trivial (by simp [gc, Fr.keep, reach, frRefs, heapRefs, PV.refs, gcH, PV.ren, Obj.ren, Heap.obj, Fr.ren, gh])
    · simp [gc, Fr.keep, reach, frRefs, heapRefs, PV.refs, gcH, PV.ren, Obj.ren, Heap.obj, Fr.ren, gh]
theorem val1035 (T : Tab) (hV : HV T) (l : List AEntry) (t : Bool) (acc frm upto : Int) (hn : l.length ≤ maxLen) (ho : ∀ e ∈ l, e.Legs.l.length ≤ maxLen) : T.val 1035 [.l (K1 10) (l.map AEntry.dv) t, I acc, I frm, I upto] = some (.t [.d (I (turn l acc frm upto).1), .d (I (turn l acc frm upto).2)], false) := by
  rw [val_k T (hV 1035 F1035 rfl) rfl]
  have lp := fun k fr H => @lp1035_1 T l t acc frm upto hn ho k fr H
  simp [F1035, Fr.ofArgs]
  refine (lp _ _ _ (by simp [gc, Fr.keep, reach, frRefs, heapRefs, PV.refs, gcH, PV.ren, Obj.ren, Heap.obj, Fr.ren, gh])).trans ?_
  simp [turn]
theorem fTr_nrm {acc : Int} {i : Nat} {s : DC} {x : ALeg} (h1 : w64 s.1 = s.1) (h2 : w64 s.2 = s.2) : w64 (fTr acc i s x).1 = (fTr acc i s x).1 ∧ w64 (fTr acc i s x).2 = (fTr acc i s x).2 := by
  unfold fTr
  split
  · exact ⟨w64_idem _, h2⟩
  · split
    · exact ⟨h1, w64_idem _⟩
    · exact ⟨h1, h2⟩
theorem foldTr_nrm {acc : Int} : ∀ (l : List ALeg) (i : Nat) (s : DC), w64 s.1 = s.1 → w64 s.2 = s.2 → w64 (foldN (fTr acc) i s l).1 = (foldN (fTr acc) i s l).1 ∧ w64 (foldN (fTr acc) i s l).2 = (foldN (fTr acc) i s l).2
  | [], _, _, h1, h2 => ⟨h1, h2⟩
  | x :: l, i, s, h1, h2 => by rw [foldN]; exact foldTr_nrm l _ _ (fTr_nrm h1 h2).1 (fTr_nrm h1 h2).2
theorem mvL_fTr (acc frm upto : Int) (e : AEntry) : ∀ (l : List ALeg) (i : Nat) (s : DC), w64 s.1 = s.1 → w64 s.2 = s.2 → foldN (mvL acc (fTo frm upto) e) i s l = if e.Booked < frm ∨ upto < e.Booked then s else foldN (fTr acc) i s l
  | [], _, s, _, _ => by simp [foldN]
  | x :: l, i, s, h1, h2 => by
    by_cases h : e.Booked < frm ∨ upto < e.Booked
    · have e1 : mvL acc (fTo frm upto) e i s x = s := by unfold mvL fTo; split <;> simp
      rw [foldN, e1, mvL_fTr acc frm upto e l _ _ h1 h2, if_pos h, if_pos h]
    · have e1 : mvL acc (fTo frm upto) e i s x = fTr acc i s x := by
        unfold mvL fTo fTr
        rw [if_neg h]
        by_cases ha : x.Account = acc
        · rw [if_pos ha]
          by_cases hp : 0 < x.Amount
          · rw [if_pos hp, if_pos ⟨ha, hp⟩]
          · rw [if_neg hp, if_neg (by omega)]
            by_cases hm : x.Amount < 0
            · rw [if_pos ⟨ha, hm⟩]
            · rw [if_neg (by omega), show x.Amount = 0 by omega, Int.sub_zero, h2]
        · rw [if_neg ha, if_neg (fun q => ha q.1), if_neg (fun q => ha q.1)]
      rw [foldN, e1, mvL_fTr acc frm upto e l _ _ (fTr_nrm h1 h2).1 (fTr_nrm h1 h2).2, if_neg h, if_neg h, foldN]
theorem turn_eq (acc frm upto : Int) : ∀ (l : List AEntry) (i : Nat) (s : DC), w64 s.1 = s.1 → w64 s.2 = s.2 → foldN (mvE acc (fTo frm upto)) i s l = foldN (fTR acc frm upto) i s l
  | [], _, _, _, _ => rfl
  | e :: l, i, s, h1, h2 => by
    have e1 : mvE acc (fTo frm upto) i s e = fTR acc frm upto i s e := by
      unfold mvE fTR
      exact mvL_fTr acc frm upto e _ _ _ h1 h2
    have q : w64 (fTR acc frm upto i s e).1 = (fTR acc frm upto i s e).1 ∧ w64 (fTR acc frm upto i s e).2 = (fTR acc frm upto i s e).2 := by
      unfold fTR
      split
      · exact ⟨h1, h2⟩
      · exact foldTr_nrm _ _ _ h1 h2
    rw [foldN, foldN, e1]
    exact turn_eq acc frm upto l (i + 1) _ q.1 q.2
theorem val882' (T : Tab) (hT : HU T) (hV : HV T) (l : List AEntry) (t : Bool) (acc frm upto : Int) (hn : l.length ≤ maxLen) (ho : ∀ e ∈ l, e.Legs.l.length ≤ maxLen) : T.val 882 [.l (K1 10) (l.map AEntry.dv) t, I acc, I frm, I upto] = some (.t [.d (I (turn l acc frm upto).1), .d (I (turn l acc frm upto).2)], false) := by
  rw [val882 T hT hV l t acc frm upto hn ho, turn_eq acc frm upto l 0 (0, 0) rfl rfl]; rfl
end Go.Sim
end
section
namespace Go.Sim
set_option maxRecDepth 10000
set_option maxHeartbeats 4000000
def psum (s : Int) : List Int → List Int
 | [] => []
 | x :: r => w64 (s + x) :: psum (w64 (s + x)) r
def addF : Nat → Int → List Int → List Int
 | _, _, [] => []
 | 0, n, x :: r => w64 (x + n) :: addF 0 n r
 | k + 1, n, x :: r => x :: addF k n r
theorem psum_len : ∀ (l : List Int) (s : Int), (psum s l).length = l.length
 | [], _ => rfl
 | x :: l, s => by simp [psum, psum_len l]
theorem addF_len : ∀ (l : List Int) (k : Nat) (n : Int), (addF k n l).length = l.length
 | [], _, _ => rfl
 | x :: l, 0, n => by simp [addF, addF_len l]
 | x :: l, k + 1, n => by simp [addF, addF_len l]
theorem psum_shift : ∀ (l : List Int) (s a : Int), psum (w64 (s + a)) l = addF 0 a (psum s l)
 | [], _, _ => rfl
 | x :: l, s, a => by
  have e : w64 (w64 (s + a) + x) = w64 (w64 (s + x) + a) := by rw [w64_add, w64_add]; congr 1; omega
  simp only [psum, addF]
  rw [e, psum_shift l]
theorem psum_set : ∀ (l : List Int) (k : Nat) (s a : Int) (h : k < l.length), psum s (l.set k (w64 (l[k] + a))) = addF k a (psum s l)
 | [], _, _, _, h => absurd h (by simp)
 | x :: l, 0, s, a, _ => by
  have e : w64 (s + w64 (x + a)) = w64 (w64 (s + x) + a) := by rw [w64_add, w64_add']; congr 1; omega
  simp only [List.set_cons_zero, List.getElem_cons_zero, psum, addF]
  rw [e, psum_shift]
 | x :: l, k + 1, s, a, h => by
  simp only [List.set_cons_succ, List.getElem_cons_succ, psum, addF]
  rw [psum_set l k _ a (by simpa using h)]
theorem addF_add : ∀ (l : List Int) (k : Nat) (a b : Int), addF k a (addF k b l) = addF k (w64 (b + a)) l
 | [], _, _, _ => rfl
 | x :: l, 0, a, b => by
  simp only [addF]
  rw [addF_add l, w64_add, w64_add', Int.add_assoc]
 | x :: l, k + 1, a, b => by simp only [addF]; rw [addF_add l]
theorem addF_zero : ∀ (l : List Int) (k : Nat), (∀ x ∈ l, w64 x = x) → addF k 0 l = l
 | [], _, _ => rfl
 | x :: l, 0, h => by simp only [addF, Int.add_zero]; rw [addF_zero l 0 fun y hy => h y (List.mem_cons_of_mem _ hy), h x (List.mem_cons_self ..)]
 | x :: l, k + 1, h => by simp only [addF]; rw [addF_zero l k fun y hy => h y (List.mem_cons_of_mem _ hy)]
theorem addF_nrm : ∀ (l : List Int) (k : Nat) (a : Int), (∀ x ∈ l, w64 x = x) → ∀ x ∈ addF k a l, w64 x = x
 | [], _, _, _, x, hx => by simp [addF] at hx
 | y :: l, 0, a, h, x, hx => by
  simp only [addF, List.mem_cons] at hx
  rcases hx with rfl | hx
  ·exact w64_idem _
  ·exact addF_nrm l 0 a (fun z hz => h z (List.mem_cons_of_mem _ hz)) x hx
 | y :: l, k + 1, a, h, x, hx => by
  simp only [addF, List.mem_cons] at hx
  rcases hx with rfl | hx
  ·exact h _ (List.mem_cons_self ..)
  ·exact addF_nrm l k a (fun z hz => h z (List.mem_cons_of_mem _ hz)) x hx
theorem addF_big : ∀ (l : List Int) (k : Nat) (a : Int), l.length ≤ k → addF k a l = l
 | [], _, _, _ => rfl
 | x :: l, 0, a, h => by simp at h
 | x :: l, k + 1, a, h => by simp only [addF]; rw [addF_big l k a (by simpa using h)]
theorem psum_zeros : ∀ n, psum 0 (List.replicate n 0) = List.replicate n 0
 | 0 => rfl
 | n + 1 => by simp only [List.replicate_succ, psum]; rw [show w64 (0 + 0) = 0 from rfl, psum_zeros n]
def addP : Nat → Nat → Int → List Int → List Int
 | _, _, _, [] => []
 | 0, 0, _, l => l
 | 0, i + 1, n, x :: r => w64 (x + n) :: addP 0 i n r
 | k + 1, i, n, x :: r => x :: addP k i n r
theorem addP_0 : ∀ (l : List Int) (k : Nat) (n : Int), addP k 0 n l = l
 | [], k, n => by cases k <;> rfl
 | x :: l, 0, n => rfl
 | x :: l, k + 1, n => by simp only [addP]; rw [addP_0 l]
theorem addP_len : ∀ (l : List Int) (k i : Nat) (n : Int), (addP k i n l).length = l.length
 | [], k, i, n => by cases k <;> cases i <;> rfl
 | x :: l, 0, 0, n => rfl
 | x :: l, 0, i + 1, n => by simp [addP, addP_len l]
 | x :: l, k + 1, i, n => by simp [addP, addP_len l]
theorem addP_step : ∀ (l : List Int) (k i : Nat) (n : Int) (h : k + i < (addP k i n l).length), (addP k i n l).set (k + i) (w64 ((addP k i n l)[k + i] + n)) = addP k (i + 1) n l
 | [], k, i, n, h => by rw [addP_len] at h; simp at h
 | x :: l, 0, 0, n, h => by simp [addP, addP_0]
 | x :: l, 0, i + 1, n, h => by
  have ih := addP_step l 0 i n (by rw [addP_len] at h ⊢; simp at h; omega)
  have e : 0 + (i + 1) = (0 + i) + 1 := by omega
  simp only [addP, e, List.set_cons_succ, List.getElem_cons_succ]
  rw [ih]
 | x :: l, k + 1, i, n, h => by
  have ih := addP_step l k i n (by rw [addP_len] at h ⊢; simp at h; omega)
  have e : k + 1 + i = (k + i) + 1 := by omega
  simp only [addP, e, List.set_cons_succ, List.getElem_cons_succ]
  rw [ih]
theorem addP_all : ∀ (l : List Int) (k i : Nat) (n : Int), l.length = k + i → addP k i n l = addF k n l
 | [], k, i, n, h => by cases k <;> cases i <;> rfl
 | x :: l, 0, 0, n, h => by simp at h
 | x :: l, 0, i + 1, n, h => by simp only [addP, addF]; rw [addP_all l 0 i n (by simp at h; omega)]
 | x :: l, k + 1, i, n, h => by simp only [addP, addF]; rw [addP_all l k i n (by simp at h; omega)]
def psP (s : Int) : Nat → List Int → List Int
 | _, [] => []
 | 0, l => l
 | i + 1, x :: r => w64 (s + x) :: psP (w64 (s + x)) i r
theorem psP_len : ∀ (l : List Int) (s : Int) (i : Nat), (psP s i l).length = l.length
 | [], s, i => by cases i <;> rfl
 | x :: l, s, 0 => rfl
 | x :: l, s, i + 1 => by simp [psP, psP_len l]
theorem psP_all : ∀ (l : List Int) (s : Int) (i : Nat), l.length ≤ i → psP s i l = psum s l
 | [], s, i, _ => by cases i <;> rfl
 | x :: l, s, 0, h => by simp at h
 | x :: l, s, i + 1, h => by simp only [psP, psum]; rw [psP_all l _ i (by simpa using h)]
theorem psP_0 (l : List Int) (s : Int) : psP s 0 l = l := by cases l <;> rfl
theorem psP_step : ∀ (l : List Int) (s : Int) (i : Nat) (h : i + 1 < (psP s (i + 1) l).length), (psP s (i + 1) l).set (i + 1) (w64 ((psP s (i + 1) l)[i + 1] + (psP s (i + 1) l)[i])) = psP s (i + 2) l
 | [], s, i, h => by simp [psP] at h
 | [x], s, i, h => by simp [psP_len] at h
 | x :: y :: l, s, 0, h => by
  simp only [psP, List.set_cons_succ, List.set_cons_zero, List.getElem_cons_succ, List.getElem_cons_zero, psP_0]
  rw [show w64 (y + w64 (s + x)) = w64 (w64 (s + x) + y) by rw [Int.add_comm]]
 | x :: y :: l, s, i + 1, h => by
  have ih := psP_step (y :: l) (w64 (s + x)) i (by rw [psP_len] at h ⊢; simp at h ⊢; omega)
  have a : psP s (i + 1 + 1) (x :: y :: l) = w64 (s + x) :: psP (w64 (s + x)) (i + 1) (y :: l) := rfl
  have b : psP s (i + 1 + 2) (x :: y :: l) = w64 (s + x) :: psP (w64 (s + x)) (i + 2) (y :: l) := rfl
  simp only [a, b, List.set_cons_succ, List.getElem_cons_succ]
  exact congrArg _ ih
theorem psP_1 (l : List Int) (h : ∀ x ∈ l, w64 x = x) : psP 0 1 l = l := by
 cases l with
 | nil => rfl
 | cons x r => simp only [psP, Int.zero_add, psP_0]; rw [h x (List.mem_cons_self ..)]
end Go.Sim
end
end
section
namespace Go.Sim
theorem fits_r (o off len : Nat) (k : K) (t : Bool) : fits none (.r o k off len t) = true := rfl
section
variable {R : Type} {H : Heap}
def stM (H : Heap) (k : K) (o i c : Nat) (v : PV) (x : Option Obj) {hy : Heap → Option R} (_ : Hd hy) : Option R := match x with
 | some (.box kb w) => chk (fits k v = true) (.h (chk (i = 0) (.h (if (c == 0 && K.eq k kb) = true then hy (H.put o (some (.box kb v))) else chk (c + k.size ≤ w.cells.length) (.h (bo (mkP kb (putAt w.cells c v.cells)) (.h fun w' => hy (H.put o (some (.box kb w'))))))))))
 | some (.sl kb ro es) => chk (fits k v = true) (.h (bo es[i]? (.h fun e => chk (ro ≤ i) (.h (bo (pur H v) (.h fun p => chk (p.2.contains o = false) (.h (if (c == 0 && K.eq k kb) = true then hy ((frz H p.2).put o (some (.sl kb ro (es.set i p.1)))) else chk (c + k.size ≤ e.cells.length) (.h (bo (mkD kb (putAt e.cells c p.1.cells)) (.h fun e' => hy ((frz H p.2).put o (some (.sl kb ro (es.set i e')))))))))))))))
 | _ => none
theorem st_pm (k : K) (o i c : Nat) (v : PV) {hy : Heap → Option R} : bo (storeA H k (.p o i c) v) (.h hy) = stM H k o i c v (H.obj o) (.h hy) := by
 unfold stM
 split
 ·rename_i kb w ho; exact st_box kb k o i c v w ho
 ·rename_i kb ro es ho
  simp only [storeA, ho, chk]
  by_cases hf : fits k v = true
  ·simp only [hf, if_true]
   cases es[i]? with
   | none => rfl
   | some e =>
    simp only [bo]
    by_cases hr : ro ≤ i
    ·simp only [hr, if_true]
     cases pur H v with
     | none => rfl
     | some p =>
      obtain ⟨x, os⟩ := p
      simp only
      cases hc : os.contains o with
      | true => simp
      | false =>
       simp only [Bool.false_eq_true, if_false, if_true]
       by_cases hk : (c == 0 && K.eq k kb) = true
       ·simp only [hk, if_true]
       ·simp only [hk, if_false, Bool.false_eq_true]
        by_cases hs : c + k.size ≤ e.cells.length
        ·simp only [hs, if_true]
         cases mkD kb (putAt e.cells c x.cells) <;> rfl
        ·simp only [hs, if_false]
    ·simp only [hr, if_false]
  ·simp only [hf, Bool.false_eq_true, if_false]; rfl
 ·rename_i h1 h2
  simp only [storeA]
  cases hx : H.obj o with
  | none => by_cases hf : fits k v = true <;> simp [hf, bo]
  | some y =>
   cases y with
   | box kb w => exact absurd hx (h1 kb w)
   | sl kb ro es => exact absurd hx (h2 kb ro es)
   | _ => by_cases hf : fits k v = true <;> simp [hf, bo]
theorem stM_box (kb k : K) (o i c : Nat) (v w : PV) {hy : Heap → Option R} : stM H k o i c v (some (.box kb w)) (.h hy) = chk (fits k v = true) (.h (chk (i = 0) (.h (if (c == 0 && K.eq k kb) = true then hy (H.put o (some (.box kb v))) else chk (c + k.size ≤ w.cells.length) (.h (bo (mkP kb (putAt w.cells c v.cells)) (.h fun w' => hy (H.put o (some (.box kb w')))))))))) := rfl
theorem stM_sl (kb k : K) (o i c ro : Nat) (v : PV) (es : List DV) {hy : Heap → Option R} : stM H k o i c v (some (.sl kb ro es)) (.h hy) = chk (fits k v = true) (.h (bo es[i]? (.h fun e => chk (ro ≤ i) (.h (bo (pur H v) (.h fun p => chk (p.2.contains o = false) (.h (if (c == 0 && K.eq k kb) = true then hy ((frz H p.2).put o (some (.sl kb ro (es.set i p.1)))) else chk (c + k.size ≤ e.cells.length) (.h (bo (mkD kb (putAt e.cells c p.1.cells)) (.h fun e' => hy ((frz H p.2).put o (some (.sl kb ro (es.set i e'))))))))))))))) := rfl
theorem subDw (k : K) (v : DV) {z : DV → Option R} : bo (subD k v 0 k) (.h z) = z v := by
 have : K.eq k k = true := by cases k <;> simp [K.eq]
 simp [subD, this, bo]
end
end Go.Sim
end
