/- Part 12 of the proof: CbFin29E, CbKs, CbLp, CbKd, CbKr, CbGc, CbKe, CbKq, CbKf, CbKg, CbV29S, CbTy, CbSimI, CbTo, CbH1, CbU25, CbH2, CbH3, CbH4, CbH5, CbH6, CbH7, CbH8, CbH9, CbHa, CbBq, CbXe, CbHb, CbHc, CbHd, CbKh, CbKi, CbKj, CbKk, CbKl, CbS0, CbHe, CbHf, CbN0, CbV25N, CbN1, CbN2, CbN3, CbN4, CbN5, CbS2, CbS3, CbV25E, CbJ1, CbJ2, CbJ3, CbS6, CbS7, CbS8, CbS9, CbS4, CbS1, CbS5, CbSx. -/
import Derived.Test.YtakfofnggifenaaGreatDoorB9
import Derived.Test.YtakfofnggifenaaGreatDoorB10
import Derived.Test.YtakfofnggifenaaGreatDoorB11
import Derived.KernelRfl
import Derived.Test.YtakfofnggifenaaGreatDoorB3
import Derived.Test.YtakfofnggifenaaGreatDoorB2
import Derived.Laws.BitsLemmas
import Derived.Test.YtakfofnggifenaaGreatDoorB6
import Derived.Test.YtakfofnggifenaaGreatDoorB7
import Derived.Test.YtakfofnggifenaaGreatDoorB8
import Derived.Test.YtakfofnggifenaaGreatDoorB1
section
open Go Go.Sim Go.RowKit
namespace Go.Proofs.YtakfofnggifenaaGreatDoor
set_option maxRecDepth 100000
theorem x109 : XOK Tryz.prog nm cx TA29E.G 109 .itoa := ⟨Tryz.laysM171_ren, Tryz.laysM171, by kernel_rfl, by kernel_rfl⟩
def insR264 : Go.Shelf.Ren := ⟨fun | 22 => 77 | 29 => 105 | 30 => 106 | n => n, fun | 0 => 0 | 3 => 3 | 4 => 4 | 9 => 59 | 24 => 52 | n => n, fun n => n⟩
theorem insL264 : InsL Tryz.prog (cx.μ 264) insR264 (K1 3).size := {
 mixed := by kernel_rfl
 bears := ⟨_, by decide, Tryz.func77⟩
 ov := ⟨_, Tryz.func105, by kernel_rfl, by kernel_rfl, by kernel_rfl, by kernel_rfl⟩
 t3 := Tryz.underlying3
 a3 := Tryz.isAgg3
 z3 := Tryz.sizeOf3
 v3 := Tryz.zeroValue3
 t4 := Tryz.underlying4
 a4 := Tryz.isAgg4
 z4 := Tryz.sizeOf4
 v4 := Tryz.zeroValue4
 t24 := Tryz.underlying52
 a24 := Tryz.isAgg52
 z24 := Tryz.sizeOf52
 v24 := Tryz.zeroValue52
 z9 := Tryz.sizeOf59 }
theorem r264 : ROK Tryz.prog nm cx TA29E.G 264 (.ins (K1 3) 32) := ⟨insR264, .a [I 0, I 0, .s []], insL264, by kernel_rfl, by kernel_rfl, by kernel_rfl, by decide, by decide⟩
def insR269 : Go.Shelf.Ren := ⟨fun | 22 => 152 | 29 => 173 | 30 => 174 | n => n, fun | 0 => 0 | 3 => 3 | 4 => 4 | 9 => 212 | 24 => 209 | n => n, fun n => n⟩
theorem insL269 : InsL Tryz.prog (cx.μ 269) insR269 (K1 2).size := {
 mixed := by kernel_rfl
 bears := ⟨_, by decide, Tryz.func152⟩
 ov := ⟨_, Tryz.func173, by kernel_rfl, by kernel_rfl, by kernel_rfl, by kernel_rfl⟩
 t3 := Tryz.underlying3
 a3 := Tryz.isAgg3
 z3 := Tryz.sizeOf3
 v3 := Tryz.zeroValue3
 t4 := Tryz.underlying4
 a4 := Tryz.isAgg4
 z4 := Tryz.sizeOf4
 v4 := Tryz.zeroValue4
 t24 := Tryz.underlying209
 a24 := Tryz.isAgg209
 z24 := Tryz.sizeOf209
 v24 := Tryz.zeroValue209
 z9 := Tryz.sizeOf212 }
theorem r269 : ROK Tryz.prog nm cx TA29E.G 269 (.ins (K1 2) 24) := ⟨insR269, .a [.s [], I 0], insL269, by kernel_rfl, by kernel_rfl, by kernel_rfl, by decide, by decide⟩
theorem r386 : ROK Tryz.prog nm cx TA29E.G 386 .ai := ⟨Tryz.laysM176_ren, Tryz.laysM176, by kernel_rfl, by kernel_rfl, by kernel_rfl, by kernel_rfl, by kernel_rfl⟩
theorem xok : ∀ x ∈ xsL, XOK Tryz.prog nm cx TA29E.G x.1 x.2 := by
 simp only [xsL, List.forall_mem_cons, List.not_mem_nil, false_imp_iff, implies_true, and_true]
 exact ⟨x109, clone147, clone60, clone15⟩
theorem rok : ∀ x ∈ rsL, ROK Tryz.prog nm cx TA29E.G x.1 x.2 := by
 simp only [rsL, List.forall_mem_cons, List.not_mem_nil, false_imp_iff, implies_true, and_true]
 exact ⟨r264, r269, r386⟩
theorem tok0 : TabOK Tryz.prog nm cx TA29E := tab_ok nok fok xok rok
theorem tok : TabOK Tryz.prog nm cx TA29Em1 := memo_ok tok0 ms1_ok ms1_some
end Go.Proofs.YtakfofnggifenaaGreatDoor
end
section
namespace Go.Sim
inductive Hd {α : Type} : α → Type where
 | h (x : α) : Hd x
section
variable {R α β : Type}
def bo (x : Option α) {k : α → Option R} (_ : Hd k) : Option R := match x with | some a => k a | none => none
def bo2 (x : Option (PV × Heap)) {k : PV → Heap → Option R} (_ : Hd k) : Option R := match x with | some (v, H) => k v H | none => none
def brn (b : Bool) {x y : Option R} (_ : Hd (x, y)) : Option R := match b with | true => x | false => y
def chk (p : Prop) [Decidable p] {x : Option R} (_ : Hd x) : Option R := if p then x else none
theorem brn_true (x y : Option R) : brn true (.h (x, y)) = x := rfl
theorem brn_false (x y : Option R) : brn false (.h (x, y)) = y := rfl
theorem brn_not (b : Bool) (x y : Option R) : brn (!b) (.h (x, y)) = brn b (.h (y, x)) := by cases b <;> rfl
theorem brn_split {b : Bool} {x y z : Option R} (h1 : b = true → x = z) (h2 : b = false → y = z) : brn b (.h (x, y)) = z := by cases b; exact h2 rfl; exact h1 rfl
theorem chk_T (x : Option R) : chk True (.h x) = x := rfl
theorem bo_some (a : α) (k : α → Option R) : bo (some a) (.h k) = k a := rfl
theorem bo_none (k : α → Option R) : bo none (.h k) = none := rfl
theorem bo2_some (v : PV) (H : Heap) (k : PV → Heap → Option R) : bo2 (some (v, H)) (.h k) = k v H := rfl
theorem bo2_none (k : PV → Heap → Option R) : bo2 none (.h k) = none := rfl
theorem bo2_opt (x : Option PV) (H : Heap) (k : PV → Heap → Option R) : bo2 (opt x H) (.h k) = bo x (.h fun v => k v H) := by cases x <;> rfl
theorem bo2_optD (x : Option DV) (H : Heap) (k : PV → Heap → Option R) : bo2 (optD x H) (.h k) = bo x (.h fun v => k (.d v) H) := by cases x <;> rfl
abbrev KC (R : Type) := Ex → Fr → Heap → Option R
abbrev KO (R : Type) := Fr → Heap → Option R
noncomputable def kC (E : Env) (base : Nat) (fr : Fr) (H : Heap) {c : PC} {k : KC R} (_ : Hd (c, k)) : Option R := match evalC E lpI base c ⟨fr, H⟩ with | some (e, s) => k e s.fr s.H | none => none
def kO (E : Env) (id : Nat) (fr : Fr) (H : Heap) {ops : List IOper} {k : KO R} (_ : Hd (ops, k)) : Option R := match evalOps E ops id ⟨fr, H⟩ with | some s => k s.fr s.H | none => none
def kD (E : Env) (id : Nat) (fr : Fr) (H : Heap) (bf : List Nat) (acc : List (List Nat × List Nat)) {ops : List IOper} {k : KO R} (_ : Hd (ops, k)) : Option R := match evalOpsD E ops bf acc id ⟨fr, H⟩ with | some s => k s.fr s.H | none => none
variable {E : Env} {base : Nat} {fr : Fr} {H : Heap} {k : KC R} {j : KO R}
theorem kC_skip : kC E base fr H (.h (.skip, k)) = k .norm fr H := rfl
theorem kC_ret : kC E base fr H (.h (.ret, k)) = k .ret fr H := rfl
theorem kC_exit {id : Nat} : kC E base fr H (.h (.exit id, k)) = k (.exit id) fr H := rfl
noncomputable def sqK (E : Env) (base : Nat) (b : PC) (k : KC R) : KC R
 | .norm, fr, H => kC E base fr H (.h (b, k))
 | .exit id, fr, H => k (.exit id) fr H
 | .ret, fr, H => k .ret fr H
def blK (id : Nat) (k : KC R) : KC R
 | .exit i, fr, H => if i = id then k .norm fr H else k (.exit i) fr H
 | .norm, fr, H => k .norm fr H
 | .ret, fr, H => k .ret fr H
def rgK (kill : List Nat) (k : KC R) : KO R := fun fr H => k .norm (fr.drop kill) H
theorem kC_seq {a b : PC} : kC E base fr H (.h (.seq a b, k)) = kC E base fr H (.h (a, sqK E base b k)) := by
 simp only [kC, evalC]
 cases evalC E lpI base a ⟨fr, H⟩ with
 | none => rfl
 | some x => obtain ⟨e, s⟩ := x; cases e <;> rfl
theorem kC_block {id : Nat} {x : PC} : kC E base fr H (.h (.block id x, k)) = kC E base fr H (.h (x, blK id k)) := by
 simp only [kC, evalC]
 cases evalC E lpI base x ⟨fr, H⟩ with
 | none => rfl
 | some y =>
  obtain ⟨e, s⟩ := y
  cases e with
  | norm => rfl
  | ret => rfl
  | exit i =>
   by_cases h : i = id
   ·subst h; simp [blK]
   ·simp [blK, h]
theorem kC_reg {ops : List IOper} {kill : List Nat} : kC E base fr H (.h (.reg ops kill, k)) = kO E H.length fr (H ++ List.replicate (nadds ops) none) (.h (ops, rgK kill k)) := by
 simp only [kC, evalC, evalReg, kO]
 cases evalOps E ops H.length ⟨fr, H ++ List.replicate (nadds ops) none⟩ <;> rfl
theorem kC_regD {ops : List IOper} {bf kill : List Nat} : kC E base fr H (.h (.regD ops bf kill, k)) = kD E H.length fr (H ++ List.replicate (nadds ops) none) bf [] (.h (ops, rgK kill k)) := by
 simp only [kC, evalC, evalRegD, kD]
 cases evalOpsD E ops bf [] H.length ⟨fr, H ++ List.replicate (nadds ops) none⟩ <;> rfl
def Fr.fix : Fr → Nat → Bool → Fr
 | [], _, _ => []
 | (j, v) :: r, t, b => if j = t then (j, .d (.b b)) :: r else (j, v) :: Fr.fix r t b
theorem fix_eq : ∀ {fr : Fr} {t : Nat} {b : Bool}, fr.get t = .d (.b b) → fr.fix t b = fr
 | [], t, b, h => rfl
 | (j, x) :: r, t, b, h => by
  simp only [Fr.get] at h
  simp only [Fr.fix]
  split
  ·rename_i hj; rw [if_pos hj] at h; rw [h]
  ·rename_i hj; rw [if_neg hj] at h; rw [fix_eq h]
def tst (v : PV) {x y : Option R} (_ : Hd (x, y)) : Option R := match v with | .d (.b true) => x | .d (.b false) => y | _ => none
theorem tst_b (b : Bool) (x y : Option R) : tst (.d (.b b)) (.h (x, y)) = brn b (.h (x, y)) := by cases b <;> rfl
theorem kC_cond {t : Nat} {x y : PC} : kC E base fr H (.h (.cond (.t t) x y, k)) = tst (fr.get t) (.h (kC E base (fr.fix t true) H (.h (x, k)), kC E base (fr.fix t false) H (.h (y, k)))) := by
 simp only [kC, evalC, rd]
 cases h : fr.get t with
 | d v =>
  cases v with
  | b b => cases b with
   | true => simp only [tst]; rw [fix_eq h]
   | false => simp only [tst]; rw [fix_eq h]
  | _ => rfl
 | _ => rfl
theorem kC_condc {b : Bool} {x y : PC} : kC E base fr H (.h (.cond (.c (.b b)) x y, k)) = brn b (.h (kC E base fr H (.h (x, k)), kC E base fr H (.h (y, k)))) := by
 cases b <;> rfl
theorem kO_nil {id : Nat} : kO E id fr H (.h ([], j)) = j fr H := rfl
def nid (op : IOp) (id : Nat) : Nat := if op.adds = true then id + 1 else id
theorem kO_O {d : Nat} {op : IOp} {r : List IOper} {id : Nat} : kO E id fr H (.h (⟨some d, op, none⟩ :: r, j)) = bo2 (evalOp E (rd E fr) H id op) (.h fun v H => kO E (nid op id) (fr.set d v) H (.h (r, j))) := by
 simp only [kO, evalOps, bo2]
 cases evalOp E (rd E fr) H id op <;> rfl
theorem kO_E {op : IOp} {r : List IOper} {id : Nat} : kO E id fr H (.h (⟨none, op, none⟩ :: r, j)) = bo2 (evalOp E (rd E fr) H id op) (.h fun _ H => kO E (nid op id) fr H (.h (r, j))) := by
 simp only [kO, evalOps, bo2]
 cases evalOp E (rd E fr) H id op <;> rfl
def grd (v : PV) (w : Bool) {x y z : Option R} (_ : Hd (x, y, z)) : Option R := match v with | .d (.b b) => if b = w then x else y | .t [] => z | _ => none
theorem grd_b (b : Bool) (x y z : Option R) : grd (.d (.b b)) true (.h (x, y, z)) = brn b (.h (x, y)) := by cases b <;> rfl
theorem grd_nb (b : Bool) (x y z : Option R) : grd (.d (.b b)) false (.h (x, y, z)) = brn b (.h (y, x)) := by cases b <;> rfl
theorem grd_t (w : Bool) (x y z : Option R) : grd (.t []) w (.h (x, y, z)) = z := rfl
theorem kO_OG {d t : Nat} {w : Bool} {op : IOp} {r : List IOper} {id : Nat} : kO E id fr H (.h (⟨some d, op, some (t, w)⟩ :: r, j)) =
  grd (fr.get t) w (.h (bo2 (evalOp E (rd E (fr.fix t w)) H id op) (.h fun v H => kO E (nid op id) ((fr.fix t w).set d v) H (.h (r, j))), kO E (nid op id) ((fr.fix t (!w)).set d (.t [])) H (.h (r, j)), kO E (nid op id) (fr.set d (.t [])) H (.h (r, j)))) := by
 simp only [kO, evalOps]
 cases h : fr.get t with
 | d v =>
  cases v with
  | b b =>
   by_cases hb : b = w
   ·subst hb
    rw [fix_eq h]
    simp only [grd, beq_self_eq_true, if_true]
    cases evalOp E (rd E fr) H id op <;> rfl
   ·have e : (b == w) = false := by simpa using hb
    have e2 : b = !w := by cases b <;> cases w <;> simp_all
    rw [e2] at h
    simp only [grd, e, if_neg hb, Bool.false_eq_true, if_false]
    rw [fix_eq h]; rfl
  | _ => rfl
 | t vs => cases vs <;> rfl
 | _ => rfl
theorem kO_EG {t : Nat} {w : Bool} {op : IOp} {r : List IOper} {id : Nat} : kO E id fr H (.h (⟨none, op, some (t, w)⟩ :: r, j)) =
  grd (fr.get t) w (.h (bo2 (evalOp E (rd E (fr.fix t w)) H id op) (.h fun _ H => kO E (nid op id) (fr.fix t w) H (.h (r, j))), kO E (nid op id) (fr.fix t (!w)) H (.h (r, j)), kO E (nid op id) fr H (.h (r, j)))) := by
 simp only [kO, evalOps]
 cases h : fr.get t with
 | d v =>
  cases v with
  | b b =>
   by_cases hb : b = w
   ·subst hb
    rw [fix_eq h]
    simp only [grd, beq_self_eq_true, if_true]
    cases evalOp E (rd E fr) H id op <;> rfl
   ·have e : (b == w) = false := by simpa using hb
    have e2 : b = !w := by cases b <;> cases w <;> simp_all
    rw [e2] at h
    simp only [grd, e, if_neg hb, Bool.false_eq_true, if_false]
    rw [fix_eq h]; rfl
  | _ => rfl
 | t vs => cases vs <;> rfl
 | _ => rfl
variable {ρ : Rand → PV} {id : Nat} {q : PV → Heap → Option R}
theorem b_mov {x : Rand} : bo2 (evalOp E ρ H id (.mov x)) (.h q) = q (ρ x) H := rfl
theorem b_pick {c x y : Rand} : bo2 (evalOp E ρ H id (.pick c x y)) (.h q) = tst (ρ c) (.h (q (ρ x) H, q (ρ y) H)) := by
 simp only [evalOp]
 cases ρ c with
 | d v =>
  cases v with
  | b b => cases b <;> rfl
  | _ => rfl
 | _ => rfl
theorem b_alloc {K : Sim.K} {z : DV} : bo2 (evalOp E ρ H id (.alloc K z)) (.h q) = q (.p id 0 0) (H.put id (some (.box K (.d z)))) := rfl
theorem b_box {K : Sim.K} {x : Rand} : bo2 (evalOp E ρ H id (.box K x)) (.h q) = chk (fits K (ρ x) = true) (.h (q (.p id 0 0) (H.put id (some (.box K (ρ x)))))) := by
 simp only [evalOp, chk]; split <;> rfl
theorem b_load {K : Sim.K} {x : Rand} : bo2 (evalOp E ρ H id (.load K x)) (.h q) = bo (loadA H K (ρ x)) (.h fun v => q v H) := by
 simp only [evalOp]; exact bo2_opt _ _ _
theorem b_store {K : Sim.K} {x y : Rand} : bo2 (evalOp E ρ H id (.store K x y)) (.h q) = bo (storeA H K (ρ x) (ρ y)) (.h fun H' => q .u H') := by
 simp only [evalOp]; cases storeA H K (ρ x) (ρ y) <;> rfl
theorem b_bin {op : BinOp} {x y : Rand} : bo2 (evalOp E ρ H id (.bin op x y)) (.h q) = bo (binA op (ρ x) (ρ y)) (.h fun v => q (.d v) H) := by
 simp only [evalOp]; exact bo2_optD _ _ _
theorem b_un {op : UnOp} {x : Rand} : bo2 (evalOp E ρ H id (.un op x)) (.h q) = bo (unA op (ρ x)) (.h fun v => q (.d v) H) := by
 simp only [evalOp]; exact bo2_optD _ _ _
theorem b_eqv {neg : Bool} {n : List Nat} {x y : Rand} : bo2 (evalOp E ρ H id (.eqv neg n x y)) (.h q) = bo (eqA n (ρ x) (ρ y)) (.h fun e => q (.d (.b (if neg = true then !e else e))) H) := by
 simp only [evalOp]; cases eqA n (ρ x) (ρ y) <;> rfl
theorem b_faddr {o : Nat} {x : Rand} : bo2 (evalOp E ρ H id (.faddr o x)) (.h q) = bo (moveA o (ρ x)) (.h fun v => q v H) := by
 simp only [evalOp]; exact bo2_opt _ _ _
theorem b_field {o : Nat} {K : Sim.K} {x : Rand} : bo2 (evalOp E ρ H id (.field o K x)) (.h q) = bo (fieldA o K (ρ x)) (.h fun v => q v H) := by
 simp only [evalOp]; exact bo2_opt _ _ _
theorem b_iaddr {K : Sim.K} {x i : Rand} : bo2 (evalOp E ρ H id (.iaddr K x i)) (.h q) = bo (iaddr H K (ρ x) (ρ i)) (.h fun v => q v H) := by
 simp only [evalOp]; exact bo2_opt _ _ _
theorem b_sl {K : Sim.K} {x : Rand} {lo hi mx : Option Rand} : bo2 (evalOp E ρ H id (.sl K x lo hi mx)) (.h q) = bo (slA H K (ρ x) (lo.map ρ) (hi.map ρ) (mx.map ρ)) (.h fun v => q v H) := by
 simp only [evalOp]; exact bo2_opt _ _ _
theorem b_len {s : Bool} {x : Rand} : bo2 (evalOp E ρ H id (.len s x)) (.h q) = bo (lenA H s (ρ x)) (.h fun n : Nat => q (.d (.i .i64 (n : Int))) H) := by
 simp only [evalOp]; cases lenA H s (ρ x) <;> rfl
theorem b_app {K : Sim.K} {b : Nat} {x y : Rand} : bo2 (evalOp E ρ H id (.app K b x y)) (.h q) = bo2 (appA H id K b (ρ x) (ρ y)) (.h q) := rfl
theorem b_call {f : Nat} {as0 : List Rand} : bo2 (evalOp E ρ H id (.call 0 f as0)) (.h q) = bo (purs H (as0.map ρ)) (.h fun d => bo (E.val f d.1) (.h fun r => q r.1 (if (d.2.isEmpty || r.1.scal) = true then H else frz H d.2))) := by
 simp only [evalOp]
 cases purs H (as0.map ρ) with
 | none => rfl
 | some d =>
  simp only [bo]
  cases E.val f d.1 with
  | none => rfl
  | some r => rfl
def ownL (x : PV × Bool) {q : K → List DV → Option R} (_ : Hd q) : Option R := match x with | (.d (.l k es _), true) => q k es | _ => none
theorem ownL_l {k : K} {es : List DV} {t : Bool} {q : K → List DV → Option R} : ownL (.d (.l k es t), true) (.h q) = q k es := rfl
theorem b_call1 {f : Nat} {as0 : List Rand} : bo2 (evalOp E ρ H id (.call 1 f as0)) (.h q) = bo (purs H (as0.map ρ)) (.h fun d => bo (E.val f d.1) (.h fun r => ownL r (.h fun k es => q (.r id k 0 es.length false) ((if d.2.isEmpty = true then H else frz H d.2).put id (some (.sl k 0 es)))))) := by
 simp only [evalOp]
 cases purs H (as0.map ρ) with
 | none => rfl
 | some d =>
  simp only [bo]
  cases E.val f d.1 with
  | none => rfl
  | some r =>
   obtain ⟨r, o⟩ := r
   cases r with
   | d v => cases v with
    | l k es t => cases o <;> rfl
    | _ => rfl
   | _ => rfl
theorem b_callR {m f : Nat} {as0 : List Rand} : bo2 (evalOp E ρ H id (.call (m + 2) f as0)) (.h q) = bo2 (E.ref f (as0.map ρ) H) (.h q) := rfl
def extK (x : PV) (i : Nat) {q : PV → Option R} (_ : Hd q) : Option R := match x with | .t vs => bo vs[i]? (.h q) | _ => none
theorem extK_t {vs : List PV} {i : Nat} {q : PV → Option R} : extK (.t vs) i (.h q) = bo vs[i]? (.h q) := rfl
theorem b_ext {x : Rand} {i : Nat} : bo2 (evalOp E ρ H id (.ext x i)) (.h q) = extK (ρ x) i (.h fun v => q v H) := by
 simp only [evalOp, extK]
 cases ρ x with
 | t vs => exact bo2_opt _ _ _
 | _ => rfl
def slSK (x : PV) (lo hi : Option PV) {q : PV → Option R} (_ : Hd q) : Option R := match x with | .d (.s s) => bo (bnd s.length s.length hi) (.h fun h => bo (bnd 0 h lo) (.h fun l => q (.d (.s ((s.take h).drop l))))) | _ => none
theorem slSK_s {s : List UInt8} {lo hi : Option PV} {q : PV → Option R} : slSK (.d (.s s)) lo hi (.h q) = bo (bnd s.length s.length hi) (.h fun h => bo (bnd 0 h lo) (.h fun l => q (.d (.s ((s.take h).drop l))))) := rfl
theorem b_slS {x : Rand} {lo hi : Option Rand} : bo2 (evalOp E ρ H id (.slS x lo hi)) (.h q) = slSK (ρ x) (lo.map ρ) (hi.map ρ) (.h fun v => q v H) := by
 simp only [evalOp, slSK]
 cases ρ x with
 | d v => cases v with
  | s s =>
   simp only
   cases bnd s.length s.length (hi.map ρ) with
   | none => rfl
   | some h => simp only [bo]; cases bnd 0 h (lo.map ρ) <;> rfl
  | _ => rfl
 | _ => rfl
variable {kk : IntKind}
theorem bo_bnd {d top : Nat} {n : Int} {y : Nat → Option R} : bo (bnd d top (some (.d (.i kk n)))) (.h y) = chk (0 ≤ n ∧ n ≤ top) (.h (y n.toNat)) := by
 simp only [bnd, asI, chk]; split <;> rfl
theorem bo_bnd0 {d top : Nat} {y : Nat → Option R} : bo (bnd d top none) (.h y) = y d := rfl
theorem bo_iaddr {K K' : Sim.K} {es : List DV} {t : Bool} {n : Int} {y : PV → Option R} (hK : K.eq K' = true) : bo (iaddr H K (.d (.l K' es t)) (.d (.i kk n))) (.h y) = chk (0 ≤ n ∧ n < es.length) (.h (bo es[n.toNat]? (.h fun e => y (.q e K 0)))) := by
 simp only [iaddr, asI, inR, chk]
 by_cases h : 0 ≤ n ∧ n < es.length
 ·rw [if_pos h, if_pos h]; simp only
  cases es[n.toNat]? with
  | none => rfl
  | some e => simp only [hK, if_true]; rfl
 ·rw [if_neg h, if_neg h]; rfl
theorem bo_addS {x y : List UInt8} {z : DV → Option R} : bo (binA .add (.d (.s x)) (.d (.s y))) (.h z) = chk (x.length + y.length < 4611686018427387904) (.h (z (.s (x ++ y)))) := by
 simp only [binA, binS, chk]
 by_cases h : x.length + y.length < 4611686018427387904
 ·rw [if_pos h, if_pos (by exact h)]; rfl
 ·rw [if_neg h, if_neg (by exact h)]; rfl
theorem bo_quo {x y : Int} {z : DV → Option R} : bo (binA .quo (.d (.i kk x)) (.d (.i kk y))) (.h z) = chk (y ≠ 0) (.h (z (.i kk (kk.wrap (x.tdiv y))))) := by
 simp only [binA, binI, if_true, chk]; by_cases h : y = 0 <;> simp [h, bo]
theorem bo_rem {x y : Int} {z : DV → Option R} : bo (binA .rem (.d (.i kk x)) (.d (.i kk y))) (.h z) = chk (y ≠ 0) (.h (z (.i kk (x.tmod y)))) := by
 simp only [binA, binI, if_true, chk]; by_cases h : y = 0 <;> simp [h, bo]
end
noncomputable def fin (E : Env) (rs : List RV) : KC (PV × Bool)
 | .exit _, _, _ => none
 | _, fr, H => bo (runG E (ghosts fr) H) (.h fun H => bo (results fr H rs) (.h fun vs => purT H (packed vs)))
theorem val_k (T : Tab) {f : Nat} {F : PF} (hF : T.F f = some F) {args : List DV} (ha : args.length = F.nargs) : T.val f args = kC T.env 0 (Fr.ofArgs 0 (args.map .d)) [] (.h (F.body, fin T.env F.results)) := by
 rw [val_eq T hF]
 unfold evalF
 rw [if_pos (by simpa using ha)]
 simp only [kC, List.length_nil]
 cases evalC T.env lpI 0 F.body ⟨Fr.ofArgs 0 (args.map .d), []⟩ with
 | none => rfl
 | some x =>
  obtain ⟨e, s⟩ := x
  cases e with
  | exit id => rfl
  | norm =>
   simp only [fin]
   cases runG T.env (ghosts s.fr) s.H with
   | none => rfl
   | some H' => simp only [bo]; cases results s.fr H' F.results <;> rfl
  | ret =>
   simp only [fin]
   cases runG T.env (ghosts s.fr) s.H with
   | none => rfl
   | some H' => simp only [bo]; cases results s.fr H' F.results <;> rfl
end Go.Sim
end
section
namespace Go.Sim
section
variable {R : Type} {E : Env} {base : Nat} {live : List Nat} {body : PC}
noncomputable def lpK (E : Env) (base : Nat) (live : List Nat) (body : PC) (k : KC R) : KC R
 | .norm, fr, H => kC E base fr H (.h (.loop live body, k))
 | .exit id, fr, H => k (.exit id) fr H
 | .ret, fr, H => k .ret fr H
theorem kC_loop {fr : Fr} {H : Heap} {k : KC R} : kC E base fr H (.h (.loop live body, k)) = kC E base (gc live base ⟨fr, H⟩).fr (gc live base ⟨fr, H⟩).H (.h (body, lpK E base live body k)) := by
 have h : evalC E lpI base (.loop live body) ⟨fr, H⟩ = lpI (fun s => evalC E lpI base body (gc live base s)) ⟨fr, H⟩ := rfl
 simp only [kC, h]
 rw [lpI_eq]
 cases hb : evalC E lpI base body (gc live base ⟨fr, H⟩) with
 | none => simp only
 | some x =>
  obtain ⟨e, s⟩ := x
  simp only
  cases e with
  | norm => rfl
  | exit id => rfl
  | ret => rfl
def rounds {α β : Type} (step : Nat → β → α → (β → Option R) → Option R) (done : β → Option R) : Nat → β → List α → Option R
 | _, b, [] => done b
 | i, b, x :: r => step i b x fun b' => rounds step done (i + 1) b' r
theorem loop_rounds {α β : Type} (ls : List α) (st : Nat → β → St) (inv : Nat → β → Prop) (step : Nat → β → α → (β → Option R) → Option R) (done : β → Option R) {k : KC R}
  (hend : ∀ B, B = body → ∀ b, inv ls.length b → kC E base (st ls.length b).fr (st ls.length b).H (.h (body, lpK E base live B k)) = done b)
  (hround : ∀ B, B = body → ∀ i b (h : i < ls.length), inv i b → ∀ c : β → Option R, (∀ b' fr H, inv (i + 1) b' → gc live base ⟨fr, H⟩ = st (i + 1) b' → kC E base fr H (.h (.loop live B, k)) = c b') → kC E base (st i b).fr (st i b).H (.h (body, lpK E base live B k)) = step i b ls[i] c)
  {fr : Fr} {H : Heap} {b0 : β} (h0 : gc live base ⟨fr, H⟩ = st 0 b0) (hi : inv 0 b0) : kC E base fr H (.h (.loop live body, k)) = rounds step done 0 b0 ls := by
 have key : ∀ (n i : Nat) (b : β) (fr : Fr) (H : Heap), i + n = ls.length → inv i b → gc live base ⟨fr, H⟩ = st i b → kC E base fr H (.h (.loop live body, k)) = rounds step done i b (ls.drop i) := by
  intro n
  induction n with
  | zero =>
   intro i b fr H hn hv hg
   have hi : i = ls.length := by omega
   subst hi
   rw [kC_loop, hg, hend body rfl b hv, List.drop_length]
   rfl
  | succ n ih =>
   intro i b fr H hn hv hg
   have hlt : i < ls.length := by omega
   rw [kC_loop, hg, List.drop_eq_getElem_cons hlt]
   exact hround body rfl i b hlt hv _ fun b' fr' H' hv' hg' => ih (i + 1) b' fr' H' (by omega) hv' hg'
 have := key ls.length 0 b0 fr H (by omega) hi h0
 simpa using this
end
end Go.Sim
end
section
namespace Go.Sim
section
variable {R : Type} {y : PV → Option R} {H : Heap}
theorem cells_d (v : DV) : (PV.d v).cells = v.cells.map .d := by cases v <;> rfl
theorem take1 {α : Type} (l : List α) (c : Nat) : (l.drop c).take 1 = match l[c]? with | some x => [x] | none => [] := by
 cases h : l[c]? with
 | none => rw [List.getElem?_eq_none_iff] at h; rw [List.drop_eq_nil_iff.2 h]; rfl
 | some x =>
  obtain ⟨hc, rfl⟩ := List.getElem?_eq_some_iff.1 h
  rw [List.drop_eq_getElem_cons hc]; rfl
theorem subP0 (n : Nat) (v : DV) (c : Nat) : bo (subP (some n) (.d v) c none) (.h y) = chk (c < n) (.h (bo v.cells[c]? (.h fun x => y (.d x)))) := by
 unfold chk
 simp only [subP, K.eq, Bool.and_false, Bool.false_eq_true, if_false]
 change bo (@ite _ (c + 1 ≤ n) (Nat.decLe _ _) (mkP none ((List.drop c (PV.d v).cells).take 1)) none) (.h y) = _
 by_cases h : c < n
 ·rw [if_pos h, if_pos (by omega), take1, cells_d, List.getElem?_map]
  cases v.cells[c]? <;> rfl
 ·rw [if_neg h, if_neg (by omega)]; rfl
theorem subD0 (n : Nat) (v : DV) (c : Nat) {z : DV → Option R} : bo (subD (some n) v c none) (.h z) = chk (c < n) (.h (bo v.cells[c]? (.h z))) := by
 unfold chk
 simp only [subD, K.eq, Bool.and_false, Bool.false_eq_true, if_false]
 change bo (@ite _ (c + 1 ≤ n) (Nat.decLe _ _) (mkD none ((List.drop c v.cells).take 1)) none) (.h z) = _
 by_cases h : c < n
 ·rw [if_pos h, if_pos (by omega), take1]
  cases v.cells[c]? <;> rfl
 ·rw [if_neg h, if_neg (by omega)]; rfl
theorem ld_q0 (n : Nat) (v : DV) (c : Nat) : bo (loadA H none (.q v (some n) c)) (.h y) = chk (c < n) (.h (bo v.cells[c]? (.h fun x => y (.d x)))) := by
 have h := subD0 (R := R) n v c (z := fun x => y (.d x))
 rw [← h]
 simp only [loadA]
 cases subD (some n) v c none <;> rfl
theorem ld_qw (k : K) (v : DV) : bo (loadA H k (.q v k 0)) (.h y) = y (.d v) := by
 have : K.eq k k = true := by cases k <;> simp [K.eq]
 simp [loadA, subD, this, bo]
theorem obj_0 (x : Option Obj) (H : Heap) : Heap.obj (x :: H) 0 = x := rfl
theorem obj_s (x : Option Obj) (H : Heap) (n : Nat) : Heap.obj (x :: H) (n + 1) = Heap.obj H n := rfl
theorem ld_p (k : K) (o i c : Nat) : bo (loadA H k (.p o i c)) (.h y) = match H.obj o with
  | some (.box kb v) => chk (i = 0) (.h (bo (subP kb v c k) (.h y)))
  | some (.sl kb _ es) => bo es[i]? (.h fun e => bo (subD kb e c k) (.h fun x => y (.d x)))
  | _ => none := by
 simp only [loadA]
 cases H.obj o with
 | none => rfl
 | some x => cases x with
  | box kb v =>
   simp only
   by_cases h : i = 0
   ·subst h; simp [chk]
   ·have : (i == 0) = false := by simpa using h
    simp [h, this, bo, chk]
  | sl kb ro es =>
   simp only
   cases es[i]? with
   | none => rfl
   | some e => simp only [bo]; cases subD kb e c k <;> rfl
  | _ => rfl
theorem subPw (k : K) (v : PV) : bo (subP k v 0 k) (.h y) = y v := by
 have : K.eq k k = true := by cases k <;> simp [K.eq]
 simp [subP, this, bo]
theorem bo_moveP (off o i c : Nat) : bo (moveA off (.p o i c)) (.h y) = y (.p o i (c + off)) := rfl
theorem bo_moveQ (off : Nat) (v : DV) (k : K) (c : Nat) : bo (moveA off (.q v k c)) (.h y) = y (.q v k (c + off)) := rfl
variable {z : Nat → Option R}
theorem bo_lenl (k : K) (es : List DV) (t : Bool) : bo (lenA H false (.d (.l k es t))) (.h z) = z es.length := rfl
theorem bo_lens (s : List UInt8) : bo (lenA H true (.d (.s s))) (.h z) = z s.length := rfl
theorem bo_lenr (o : Nat) (k : K) (off len : Nat) (t : Bool) : bo (lenA H false (.r o k off len t)) (.h z) = match H.obj o with | some (.sl _ _ es) => chk (off + len ≤ es.length) (.h (z len)) | _ => none := by
 simp only [lenA, chk]
 cases H.obj o with
 | none => rfl
 | some x => cases x with
  | sl kb ro es => simp only [Bool.false_eq_true, if_false]; split <;> rfl
  | _ => rfl
variable {d : DV → Option R}
section
variable (k : IntKind) (a b : Int)
theorem bo_add : bo (binA .add (.d (.i k a)) (.d (.i k b))) (.h d) = d (.i k (k.wrap (a + b))) := by simp [binA, binI, bo]
theorem bo_sub : bo (binA .sub (.d (.i k a)) (.d (.i k b))) (.h d) = d (.i k (k.wrap (a - b))) := by simp [binA, binI, bo]
theorem bo_mul : bo (binA .mul (.d (.i k a)) (.d (.i k b))) (.h d) = d (.i k (k.wrap (a * b))) := by simp [binA, binI, bo]
theorem bo_eql : bo (binA .eql (.d (.i k a)) (.d (.i k b))) (.h d) = d (.b (a == b)) := by simp [binA, binI, bo]
theorem bo_neq : bo (binA .neq (.d (.i k a)) (.d (.i k b))) (.h d) = d (.b (a != b)) := by simp [binA, binI, bo]
theorem bo_lss : bo (binA .lss (.d (.i k a)) (.d (.i k b))) (.h d) = d (.b (decide (a < b))) := by simp [binA, binI, bo]
theorem bo_leq : bo (binA .leq (.d (.i k a)) (.d (.i k b))) (.h d) = d (.b (decide (a ≤ b))) := by simp [binA, binI, bo]
theorem bo_gtr : bo (binA .gtr (.d (.i k a)) (.d (.i k b))) (.h d) = d (.b (decide (b < a))) := by simp [binA, binI, bo]
theorem bo_geq : bo (binA .geq (.d (.i k a)) (.d (.i k b))) (.h d) = d (.b (decide (b ≤ a))) := by simp [binA, binI, bo]
theorem bo_neg : bo (unA .neg (.d (.i k a))) (.h d) = d (.i k (k.wrap (-a))) := by simp [unA, bo]
end
theorem bo_not (b : Bool) : bo (unA .not (.d (.b b))) (.h d) = d (.b (!b)) := rfl
theorem bo_eqS (a b : List UInt8) : bo (binA .eql (.d (.s a)) (.d (.s b))) (.h d) = d (.b (a == b)) := rfl
theorem bo_neS (a b : List UInt8) : bo (binA .neq (.d (.s a)) (.d (.s b))) (.h d) = d (.b (!(a == b))) := rfl
theorem K_ss (n m : Nat) : K.eq (some n) (some m) = (n == m) := rfl
theorem K_ns (n : Nat) : K.eq none (some n) = false := rfl
theorem K_sn (n : Nat) : K.eq (some n) none = false := rfl
theorem K_refl (k : K) : K.eq k k = true := by cases k <;> simp [K.eq]
theorem get_c (j t : Nat) (v : PV) (r : Fr) : Fr.get ((j, v) :: r) t = if j = t then v else Fr.get r t := rfl
theorem get_n (t : Nat) : Fr.get [] t = .u := rfl
theorem drop_c (l : List Nat) (j : Nat) (v : PV) (r : Fr) : Fr.drop l ((j, v) :: r) = if (l.contains j && Nat.blt j gh) = true then Fr.drop l r else (j, v) :: Fr.drop l r := rfl
theorem drop_n (l : List Nat) : Fr.drop l [] = [] := rfl
theorem set_c (j t : Nat) (x v : PV) (r : Fr) : Fr.set ((j, x) :: r) t v = if j = t then (t, v) :: r else if j < t then (t, v) :: (j, x) :: r else (j, x) :: Fr.set r t v := rfl
theorem set_n (t : Nat) (v : PV) : Fr.set [] t v = [(t, v)] := rfl
theorem fix_c (j t : Nat) (v : PV) (r : Fr) (b : Bool) : Fr.fix ((j, v) :: r) t b = if j = t then (j, .d (.b b)) :: r else (j, v) :: Fr.fix r t b := rfl
theorem fix_n (t : Nat) (b : Bool) : Fr.fix [] t b = [] := rfl
theorem wrI {n : Int} (h : -9223372036854775808 ≤ n) (h' : n < 9223372036854775808) : IntKind.i64.wrap n = n := by
 rw [IntKind.wrap_i64]; omega
theorem ghosts_c (j : Nat) (v : PV) (r : Fr) : ghosts ((j, v) :: r) = if Nat.ble gh j = true then v :: ghosts r else ghosts r := rfl
theorem ghosts_n : ghosts [] = [] := rfl
theorem fin_ret {E : Env} {rs : List RV} {fr : Fr} (h : ghosts fr = []) : fin E rs .ret fr H = bo (results fr H rs) (.h fun vs => purT H (packed vs)) := by
 simp only [fin, h]; rfl
theorem fin_norm {E : Env} {rs : List RV} {fr : Fr} (h : ghosts fr = []) : fin E rs .norm fr H = bo (results fr H rs) (.h fun vs => purT H (packed vs)) := by
 simp only [fin, h]; rfl
theorem bo_res0 {fr : Fr} {y : List PV → Option R} : bo (results fr H []) (.h y) = y [] := rfl
theorem bo_rest {fr : Fr} {n : Nat} {r : List RV} {y : List PV → Option R} : bo (results fr H (.t n :: r)) (.h y) = bo (results fr H r) (.h fun vs => y (fr.get n :: vs)) := by
 simp only [results]; cases results fr H r <;> rfl
theorem bo_resc {fr : Fr} {n : Nat} {k : K} {r : List RV} {y : List PV → Option R} : bo (results fr H (.c n k :: r)) (.h y) = bo (loadA H k (fr.get n)) (.h fun v => bo (results fr H r) (.h fun vs => y (v :: vs))) := by
 simp only [results]
 cases loadA H k (fr.get n) with
 | none => rfl
 | some v => simp only [bo]; cases results fr H r <;> rfl
theorem packed1 (v : PV) : packed [v] = v := rfl
theorem packed2 (v w : PV) (r : List PV) : packed (v :: w :: r) = .t (v :: w :: r) := rfl
theorem purT_b (b : Bool) : purT H (.d (.b b)) = some (.d (.b b), false) := rfl
theorem purT_i (k : IntKind) (n : Int) : purT H (.d (.i k n)) = some (.d (.i k n), false) := rfl
theorem purT_s (s : List UInt8) : purT H (.d (.s s)) = some (.d (.s s), false) := rfl
theorem purT_a (cs : List DV) : purT H (.d (.a cs)) = some (.d (.a cs), false) := rfl
theorem purT_lt (k : K) (es : List DV) : purT H (.d (.l k es true)) = some (.d (.l k es false), es.isEmpty) := rfl
theorem purT_lf (k : K) (es : List DV) : purT H (.d (.l k es false)) = some (.d (.l k es false), false) := rfl
variable {hy : Heap → Option R}
theorem st_box (kb k : K) (o i c : Nat) (v w : PV) (ho : H.obj o = some (.box kb w)) : bo (storeA H k (.p o i c) v) (.h hy) = chk (fits k v = true) (.h (chk (i = 0) (.h (if (c == 0 && K.eq k kb) = true then hy (H.put o (some (.box kb v))) else chk (c + k.size ≤ w.cells.length) (.h (bo (mkP kb (putAt w.cells c v.cells)) (.h fun w' => hy (H.put o (some (.box kb w')))))))))) := by
 simp only [storeA, ho, chk]
 by_cases hf : fits k v = true
 ·simp only [hf, if_true]
  by_cases hi : i = 0
  ·subst hi
   simp only [beq_self_eq_true, if_true]
   by_cases hc : (c == 0 && K.eq k kb) = true
   ·simp only [hc, if_true]; rfl
   ·simp only [hc, Bool.false_eq_true, if_false]
    by_cases hs : c + k.size ≤ w.cells.length
    ·simp only [hs, if_true]
     cases mkP kb (putAt w.cells c v.cells) <;> rfl
    ·simp only [hs, if_false]; rfl
  ·have : (i == 0) = false := by simpa using hi
   simp only [this, hi, Bool.false_eq_true, if_false]; rfl
 ·simp only [hf, Bool.false_eq_true, if_false]; rfl
def stK (H : Heap) (k : K) (o i c : Nat) (v : PV) (x : Option Obj) {hy : Heap → Option R} (_ : Hd hy) : Option R := match x with
 | some (.box kb w) => chk (fits k v = true) (.h (chk (i = 0) (.h (if (c == 0 && K.eq k kb) = true then hy (H.put o (some (.box kb v))) else chk (c + k.size ≤ w.cells.length) (.h (bo (mkP kb (putAt w.cells c v.cells)) (.h fun w' => hy (H.put o (some (.box kb w'))))))))))
 | _ => bo (storeA H k (.p o i c) v) (.h hy)
theorem st_p (k : K) (o i c : Nat) (v : PV) : bo (storeA H k (.p o i c) v) (.h hy) = stK H k o i c v (H.obj o) (.h hy) := by
 unfold stK
 split
 ·rename_i kb w ho; exact st_box kb k o i c v w ho
 ·rfl
theorem stK_box (kb k : K) (o i c : Nat) (v w : PV) : stK H k o i c v (some (.box kb w)) (.h hy) = chk (fits k v = true) (.h (chk (i = 0) (.h (if (c == 0 && K.eq k kb) = true then hy (H.put o (some (.box kb v))) else chk (c + k.size ≤ w.cells.length) (.h (bo (mkP kb (putAt w.cells c v.cells)) (.h fun w' => hy (H.put o (some (.box kb w')))))))))) := rfl
def callvK (E : Env) (H : Heap) (v : PV) (as0 : List PV) {q : PV → Heap → Option R} (_ : Hd q) : Option R := match v with
 | .f n caps => match (if caps.isEmpty = true then plains as0 else none) with
  | some ds => bo (E.val n ds) (.h fun r => q r.1 H)
  | none => bo2 (E.ref n (as0 ++ caps) H) (.h q)
 | .m n firsts => match plains (firsts ++ as0) with
  | some ds => bo (E.val n ds) (.h fun r => q r.1 H)
  | none => bo2 (E.ref n (firsts ++ as0) H) (.h q)
 | .h o => bo2 (E.yld o as0 H) (.h q)
 | _ => none
theorem b_callv {E : Env} {ρ : Rand → PV} {id : Nat} {x : Rand} {as0 : List Rand} {q : PV → Heap → Option R} : bo2 (evalOp E ρ H id (.callv x as0)) (.h q) = callvK E H (ρ x) (as0.map ρ) (.h q) := by
 simp only [evalOp, callvK]
 cases ρ x with
 | f n caps =>
  simp only
  cases (if caps.isEmpty = true then plains (as0.map ρ) else none) with
  | none => rfl
  | some ds => simp only; cases E.val n ds <;> rfl
 | m n firsts =>
  simp only
  cases plains (firsts ++ as0.map ρ) with
  | none => rfl
  | some ds => simp only; cases E.val n ds <;> rfl
 | _ => rfl
theorem callvK_f0 {E : Env} {n : Nat} {as0 : List PV} {q : PV → Heap → Option R} : callvK E H (.f n []) as0 (.h q) = match plains as0 with | some ds => bo (E.val n ds) (.h fun r => q r.1 H) | none => bo2 (E.ref n (as0 ++ []) H) (.h q) := rfl
theorem callvK_f1 {E : Env} {n : Nat} {c : PV} {cs : List PV} {as0 : List PV} {q : PV → Heap → Option R} : callvK E H (.f n (c :: cs)) as0 (.h q) = bo2 (E.ref n (as0 ++ c :: cs) H) (.h q) := rfl
theorem plains_n : plains [] = some [] := rfl
theorem plains_c (v : DV) (r : List PV) : plains (.d v :: r) = match plains r with | some vs => some (v :: vs) | none => none := rfl
theorem env_val (T : Tab) (f : Nat) (ds : List DV) : T.env.val f ds = T.val f ds := rfl
theorem env_ref (T : Tab) (f : Nat) (as0 : List PV) (H : Heap) : T.env.ref f as0 H = T.ref f as0 H := rfl
theorem purs_n : purs H [] = some ([], []) := rfl
theorem purs_d (v : DV) (r : List PV) : purs H (.d v :: r) = match purs H r with | some (xs, ps) => some (v :: xs, ps) | none => none := by
 simp only [purs, pur, purC]
 cases purs H r <;> rfl
theorem mkf_b {E : Env} {ρ : Rand → PV} {id f : Nat} {cs : List Rand} {q : PV → Heap → Option R} : bo2 (evalOp E ρ H id (.mkf f cs)) (.h q) = q (.f f (cs.map ρ)) H := rfl
theorem plainsD_map : ∀ l : List DV, plains (l.map PV.d) = some l
 | [] => rfl
 | v :: l => by simp [plains, plainsD_map l]
theorem subPs (n m : Nat) (v : DV) (c : Nat) : bo (subP (some n) (.d v) c (some m)) (.h y) = if (c == 0 && m == n) = true then y (.d v) else chk (c + m ≤ n ∧ ((v.cells.drop c).take m).length = m) (.h (y (.d (.a ((v.cells.drop c).take m))))) := by
 by_cases h : (c == 0 && m == n) = true
 ·have h' := h
  simp only [Bool.and_eq_true, beq_iff_eq] at h'
  obtain ⟨rfl, rfl⟩ := h'
  rw [subPw]; simp
 ·rw [if_neg h]
  have h' : (c == 0 && K.eq (some m) (some n)) = false := by simpa [K.eq] using h
  simp only [subP, h', Bool.false_eq_true, if_false, chk]
  change bo (@ite _ (c + m ≤ n) (Nat.decLe _ _) (mkP (some m) ((List.drop c (PV.d v).cells).take m)) none) (.h y) = _
  rw [cells_d, ← List.map_drop, ← List.map_take]
  by_cases h1 : c + m ≤ n
  ·rw [if_pos h1]
   by_cases h2 : ((v.cells.drop c).take m).length = m
   ·rw [if_pos ⟨h1, h2⟩]
    simp only [mkP, List.length_map, h2, if_true, mkA, plainsD_map]; rfl
   ·rw [if_neg (fun h => h2 h.2)]
    simp only [mkP, List.length_map, h2, if_false]; rfl
  ·rw [if_neg h1, if_neg (fun h => h1 h.1)]; rfl
theorem ld_qs (n m : Nat) (v : DV) (c : Nat) : bo (loadA H (some m) (.q v (some n) c)) (.h y) = if (c == 0 && m == n) = true then y (.d v) else chk (c + m ≤ n ∧ ((v.cells.drop c).take m).length = m) (.h (y (.d (.a ((v.cells.drop c).take m))))) := by
 by_cases h : (c == 0 && m == n) = true
 ·have h' := h
  simp only [Bool.and_eq_true, beq_iff_eq] at h'
  obtain ⟨rfl, rfl⟩ := h'
  rw [ld_qw]; simp
 ·rw [if_neg h]
  have h' : (c == 0 && K.eq (some m) (some n)) = false := by simpa [K.eq] using h
  simp only [loadA, subD, h', Bool.false_eq_true, if_false, chk]
  change bo (match @ite _ (c + m ≤ n) (Nat.decLe _ _) (mkD (some m) ((List.drop c v.cells).take m)) none with | some x => some (PV.d x) | none => none) (.h y) = _
  by_cases h1 : c + m ≤ n
  ·rw [if_pos h1]
   by_cases h2 : ((v.cells.drop c).take m).length = m
   ·rw [if_pos ⟨h1, h2⟩]
    simp only [mkD, h2, if_true]; rfl
   ·rw [if_neg (fun h => h2 h.2)]
    simp only [mkD, h2, if_false]; rfl
  ·rw [if_neg h1, if_neg (fun h => h1 h.1)]; rfl
end
theorem wr1 {i : Nat} (h : (i : Int) + 1 < 9223372036854775808) : IntKind.i64.wrap ((i : Int) + 1) = (i : Int) + 1 := wrI (by omega) h
end Go.Sim
end
section
namespace Go.Sim
section
variable {R : Type} {E : Env} {fr : Fr} {H : Heap} {bf : List Nat} {acc : List (List Nat × List Nat)} {id : Nat} {j : KO R}
def rdS : IOp → Bool
 | .mov _ | .pick _ _ _ | .load _ _ | .bin _ _ _ | .eqv _ _ _ _ | .eqb _ _ _ | .isnil _ _ _ | .un _ _ | .conv _ _ | .slS _ _ _ | .sl _ _ _ _ _ | .faddr _ _ | .field _ _ _ | .iaddr _ _ _ | .iaddrA _ _ _ _ | .idxS _ _ | .idxA _ _ _ _ | .len _ _ | .ext _ _ | .nilck _ | .minmax _ _ | .call 0 _ _ => true
 | _ => false
def noSl : Heap → Bool
 | [] => true
 | some (.sl _ _ _) :: _ => false
 | _ :: r => noSl r
theorem noSl_obj : ∀ {H : Heap} {o : Nat}, noSl H = true → ∀ k ro es, H.obj o ≠ some (.sl k ro es)
 | [], o, _, k, ro, es, h => by simp [Heap.obj] at h
 | x :: r, 0, hn, k, ro, es, h => by
  have : x = some (.sl k ro es) := h
  subst this
  simp [noSl] at hn
 | x :: r, o + 1, hn, k, ro, es, h => by
  have hn' : noSl r = true := by
   cases x with
   | none => exact hn
   | some y => cases y <;> first | exact hn | (simp [noSl] at hn)
  exact noSl_obj (H := r) (o := o) hn' k ro es h
theorem frz_no {H : Heap} (hn : noSl H = true) : ∀ os : List Nat, frz H os = H
 | [] => rfl
 | o :: r => by
  have h1 : frz1 H o = H := by
   unfold frz1
   split
   ·rename_i k ro es h; exact absurd h (noSl_obj hn k ro es)
   ·rfl
  rw [frz, h1, frz_no hn r]
theorem opt_H {x : Option PV} {H H' : Heap} {v : PV} (h : opt x H = some (v, H')) : H' = H := by
 cases x with
 | none => cases h
 | some y => cases h; rfl
theorem optD_H {x : Option DV} {H H' : Heap} {v : PV} (h : optD x H = some (v, H')) : H' = H := by
 cases x with
 | none => cases h
 | some y => cases h; rfl
theorem rdS_H {ρ : Rand → PV} {op : IOp} (hs : rdS op = true) (hn : noSl H = true) {v : PV} {H' : Heap} (h : evalOp E ρ H id op = some (v, H')) : H' = H := by
 cases op with
 | call m f as0 =>
  match m with
  | 0 =>
   simp only [evalOp] at h
   split at h
   ·split at h
    ·simp only [Option.some.injEq, Prod.mk.injEq] at h
     rw [← h.2, frz_no hn]; split <;> rfl
    ·cases h
   ·cases h
  | m + 1 => simp [rdS] at hs
 | mov x => cases h; rfl
 | pick c a b => simp only [evalOp] at h; split at h <;> first | (cases h; rfl) | cases h
 | load k x => exact opt_H h
 | bin op x y => exact optD_H h
 | eqv neg ks x y => simp only [evalOp] at h; split at h <;> first | (cases h; rfl) | cases h
 | eqb neg x y => simp only [evalOp] at h; split at h <;> first | (cases h; rfl) | cases h
 | isnil neg kd x => simp only [evalOp] at h; split at h <;> first | (cases h; rfl) | cases h
 | un op x => exact optD_H h
 | conv k x => simp only [evalOp] at h; split at h <;> first | (cases h; rfl) | cases h
 | slS x lo hi => simp only [evalOp] at h; (repeat' split at h) <;> first | (cases h; rfl) | cases h
 | sl k x lo hi mx => exact opt_H h
 | faddr o x => exact opt_H h
 | field o k x => exact opt_H h
 | iaddr k x i => exact opt_H h
 | iaddrA n k x i => simp only [evalOp] at h; (repeat' split at h) <;> first | exact opt_H h | cases h
 | idxS x i => simp only [evalOp] at h; (repeat' split at h) <;> first | (cases h; rfl) | cases h
 | idxA n k x i => simp only [evalOp] at h; (repeat' split at h) <;> first | exact opt_H h | cases h
 | len s x => simp only [evalOp] at h; split at h <;> first | (cases h; rfl) | cases h
 | ext x i => simp only [evalOp] at h; split at h <;> first | exact opt_H h | cases h
 | nilck x => simp only [evalOp] at h; split at h <;> first | (cases h; rfl) | cases h
 | minmax m as0 => simp only [evalOp] at h; split at h <;> first | exact opt_H h | cases h
 | _ => simp [rdS] at hs
theorem rdS_f {op : IOp} (hs : rdS op = true) (ρ : Rand → PV) : op.adds = false ∧ op.okD ρ = true ∧ storeD ρ op = [] := by
 cases op with
 | call m f as0 =>
  match m with
  | 0 => exact ⟨rfl, rfl, rfl⟩
  | m + 1 => simp [rdS] at hs
 | _ => first | exact ⟨rfl, rfl, rfl⟩ | simp [rdS] at hs
theorem chg_self (H : Heap) : ∀ l, chg H H l = []
 | [] => rfl
 | o :: r => by simp only [chg, Nat.beq_refl, if_true]; exact chg_self H r
theorem pairsD_r (b : Nat) (t : List Nat) : ∀ (acc : List (List Nat × List Nat)) (i : Nat), (∀ x ∈ acc, x.2 = []) → pairsD b i acc t [] = true
 | [], _, _ => rfl
 | x :: r, i, h => by
  simp only [pairsD, pairsD_r b t r (i + 1) (fun y hy => h y (List.mem_cons_of_mem _ hy)), h x (List.mem_cons_self ..), Bool.and_true]
  simp [disj]
def setO (dst : Option Nat) (fr : Fr) (v : PV) : Fr := match dst with | some t => fr.set t v | none => fr
theorem evalOpsD_seq : ∀ (ops : List IOper) (bf : List Nat) (acc : List (List Nat × List Nat)) (id : Nat) (fr : Fr) (H : Heap), (ops.all fun o => rdS o.op) = true → noSl H = true → (∀ x ∈ acc, x.2 = []) → evalOpsD E ops bf acc id ⟨fr, H⟩ = evalOps E ops id ⟨fr, H⟩
 | [], _, _, _, _, _, _, _, _ => rfl
 | o :: r, bf, acc, id, fr, H, ho, hn, ha => by
  simp only [List.all_cons, Bool.and_eq_true] at ho
  obtain ⟨h1, h2, h3⟩ := rdS_f ho.1 (rd E fr)
  have hid : (if o.op.adds = true then id + 1 else id) = id := by rw [h1]; rfl
  have ha' : ∀ (t : List Nat), ∀ x ∈ acc ++ [(t, ([] : List Nat))], x.2 = [] := fun t x hx => by
   rcases List.mem_append.1 hx with h | h
   ·exact ha x h
   ·rw [List.mem_singleton.1 h]
  have step : ∀ (v : PV) (H' : Heap), evalOp E (rd E fr) H id o.op = some (v, H') → ∀ fr', evalOpsD E r bf.tail (acc ++ [(writeS E o id ⟨fr, H⟩ ⟨fr', H'⟩ ++ touchS E o ⟨fr, H⟩, writeS E o id ⟨fr, H⟩ ⟨fr', H'⟩)]) id ⟨fr', H'⟩ = evalOps E r id ⟨fr', H'⟩ ∧ pairsD (bf.headD 0) 0 acc (writeS E o id ⟨fr, H⟩ ⟨fr', H'⟩ ++ touchS E o ⟨fr, H⟩) (writeS E o id ⟨fr, H⟩ ⟨fr', H'⟩) = true := by
   intro v H' he fr'
   have := rdS_H ho.1 hn he
   subst this
   have hw : writeS E o id ⟨fr, H'⟩ ⟨fr', H'⟩ = [] := by
    unfold writeS; split
    ·simp [h1, h3, chg_self]
    ·rfl
   rw [hw]
   exact ⟨evalOpsD_seq r _ _ id fr' H' ho.2 hn (ha' _), pairsD_r _ _ _ _ ha⟩
  have skip : runs o fr = false → ∀ fr', evalOpsD E r bf.tail (acc ++ [(writeS E o id ⟨fr, H⟩ ⟨fr', H⟩ ++ touchS E o ⟨fr, H⟩, writeS E o id ⟨fr, H⟩ ⟨fr', H⟩)]) id ⟨fr', H⟩ = evalOps E r id ⟨fr', H⟩ ∧ pairsD (bf.headD 0) 0 acc (writeS E o id ⟨fr, H⟩ ⟨fr', H⟩ ++ touchS E o ⟨fr, H⟩) (writeS E o id ⟨fr, H⟩ ⟨fr', H⟩) = true := by
   intro hr fr'
   have hw : writeS E o id ⟨fr, H⟩ ⟨fr', H⟩ = [] := by unfold writeS; rw [hr]; rfl
   rw [hw]
   exact ⟨evalOpsD_seq r _ _ id fr' H ho.2 hn (ha' _), pairsD_r _ _ _ _ ha⟩
  obtain ⟨dst, op, g⟩ := o
  simp only at h1 h2 h3 hid
  have go : (match (match evalOpD E (rd E fr) H id op with | some (v, H') => some (⟨setO dst fr v, H'⟩ : St) | none => none) with
    | some s' => if pairsD (bf.headD 0) 0 acc (writeS E ⟨dst, op, g⟩ id ⟨fr, H⟩ s' ++ touchS E ⟨dst, op, g⟩ ⟨fr, H⟩) (writeS E ⟨dst, op, g⟩ id ⟨fr, H⟩ s') = true then evalOpsD E r bf.tail (acc ++ [(writeS E ⟨dst, op, g⟩ id ⟨fr, H⟩ s' ++ touchS E ⟨dst, op, g⟩ ⟨fr, H⟩, writeS E ⟨dst, op, g⟩ id ⟨fr, H⟩ s')]) id s' else none
    | none => none) = match evalOp E (rd E fr) H id op with | some (v, H') => evalOps E r id ⟨setO dst fr v, H'⟩ | none => none := by
   simp only [evalOpD, h2, if_true]
   cases he : evalOp E (rd E fr) H id op with
   | none => rfl
   | some x =>
    obtain ⟨v, H'⟩ := x
    obtain ⟨q1, q2⟩ := step v H' he (setO dst fr v)
    simp only [q2, if_true, q1]
  have no : runs ⟨dst, op, g⟩ fr = false → (if pairsD (bf.headD 0) 0 acc (writeS E ⟨dst, op, g⟩ id ⟨fr, H⟩ ⟨setO dst fr (.t []), H⟩ ++ touchS E ⟨dst, op, g⟩ ⟨fr, H⟩) (writeS E ⟨dst, op, g⟩ id ⟨fr, H⟩ ⟨setO dst fr (.t []), H⟩) = true then evalOpsD E r bf.tail (acc ++ [(writeS E ⟨dst, op, g⟩ id ⟨fr, H⟩ ⟨setO dst fr (.t []), H⟩ ++ touchS E ⟨dst, op, g⟩ ⟨fr, H⟩, writeS E ⟨dst, op, g⟩ id ⟨fr, H⟩ ⟨setO dst fr (.t []), H⟩)]) id ⟨setO dst fr (.t []), H⟩ else none) = evalOps E r id ⟨setO dst fr (.t []), H⟩ := by
   intro hr
   obtain ⟨q1, q2⟩ := skip hr (setO dst fr (.t []))
   simp only [q2, if_true, q1]
  simp only [evalOpsD, stepD, evalOps, hid]
  cases g with
  | none => exact go
  | some g =>
   obtain ⟨t, w⟩ := g
   simp only
   cases hg : fr.get t with
   | d v =>
    cases v with
    | b b =>
     simp only
     by_cases hb : (b == w) = true
     ·simp only [hb, if_true]; exact go
     ·have hb' : (b == w) = false := by simpa using hb
      simp only [hb', Bool.false_eq_true, if_false]
      exact no (by simp [runs, hg, hb'])
    | _ => rfl
   | t vs =>
    cases vs with
    | nil => simp only; exact no (by simp [runs, hg])
    | cons => rfl
   | _ => rfl
theorem kC_regS {base : Nat} {k : KC R} {ops : List IOper} {kill : List Nat} (ho : (ops.all fun o => rdS o.op) = true) (hn : noSl H = true) : kC E base fr H (.h (.regD ops bf kill, k)) = kO E H.length fr H (.h (ops, rgK kill k)) := by
 have hz : nadds ops = 0 := by
  clear hn
  induction ops with
  | nil => rfl
  | cons o r ih =>
   simp only [List.all_cons, Bool.and_eq_true] at ho
   simp only [nadds, (rdS_f ho.1 (fun _ => .u)).1, ih ho.2]; rfl
 simp only [kC, evalC, evalRegD, kO, hz, List.replicate_zero, List.append_nil]
 rw [evalOpsD_seq ops bf [] H.length fr H ho hn (fun x hx => by cases hx)]
 cases evalOps E ops H.length ⟨fr, H⟩ <;> rfl
theorem kC_regS0 {base : Nat} {k : KC R} {ops : List IOper} {kill : List Nat} (ho : (ops.all fun o => rdS o.op) = true) : kC E base fr [] (.h (.regD ops bf kill, k)) = kO E 0 fr [] (.h (ops, rgK kill k)) := kC_regS ho rfl
theorem kC_regS1 {base : Nat} {k : KC R} {ops : List IOper} {kill : List Nat} {k0 : K} {v0 : PV} (ho : (ops.all fun o => rdS o.op) = true) : kC E base fr [some (.box k0 v0)] (.h (.regD ops bf kill, k)) = kO E 1 fr [some (.box k0 v0)] (.h (ops, rgK kill k)) := kC_regS ho rfl
theorem kC_regS2 {base : Nat} {k : KC R} {ops : List IOper} {kill : List Nat} {k0 k1 : K} {v0 v1 : PV} (ho : (ops.all fun o => rdS o.op) = true) : kC E base fr [some (.box k0 v0), some (.box k1 v1)] (.h (.regD ops bf kill, k)) = kO E 2 fr [some (.box k0 v0), some (.box k1 v1)] (.h (ops, rgK kill k)) := kC_regS ho rfl
theorem kC_regS3 {base : Nat} {k : KC R} {ops : List IOper} {kill : List Nat} {k0 k1 k2 : K} {v0 v1 v2 : PV} (ho : (ops.all fun o => rdS o.op) = true) : kC E base fr [some (.box k0 v0), some (.box k1 v1), some (.box k2 v2)] (.h (.regD ops bf kill, k)) = kO E 3 fr [some (.box k0 v0), some (.box k1 v1), some (.box k2 v2)] (.h (ops, rgK kill k)) := kC_regS ho rfl
theorem kC_regS4 {base : Nat} {k : KC R} {ops : List IOper} {kill : List Nat} {k0 k1 k2 k3 : K} {v0 v1 v2 v3 : PV} (ho : (ops.all fun o => rdS o.op) = true) : kC E base fr [some (.box k0 v0), some (.box k1 v1), some (.box k2 v2), some (.box k3 v3)] (.h (.regD ops bf kill, k)) = kO E 4 fr [some (.box k0 v0), some (.box k1 v1), some (.box k2 v2), some (.box k3 v3)] (.h (ops, rgK kill k)) := kC_regS ho rfl
theorem kC_regS5 {base : Nat} {k : KC R} {ops : List IOper} {kill : List Nat} {k0 k1 k2 k3 k4 : K} {v0 v1 v2 v3 v4 : PV} (ho : (ops.all fun o => rdS o.op) = true) : kC E base fr [some (.box k0 v0), some (.box k1 v1), some (.box k2 v2), some (.box k3 v3), some (.box k4 v4)] (.h (.regD ops bf kill, k)) = kO E 5 fr [some (.box k0 v0), some (.box k1 v1), some (.box k2 v2), some (.box k3 v3), some (.box k4 v4)] (.h (ops, rgK kill k)) := kC_regS ho rfl
end
end Go.Sim
end
section
namespace Go.Sim
noncomputable def finR (E : Env) (rs : List RV) (base : Nat) : KC (PV × Heap)
 | .exit _, _, _ => none
 | _, fr, H => bo (runG E (ghosts fr) H) (.h fun H => bo (results fr H rs) (.h fun vs => some (gcV base (packed vs) H)))
theorem ref_k (T : Tab) {f : Nat} {F : PF} (hF : T.F f = some F) {args : List PV} {H : Heap} (ha : args.length = F.nargs) : T.ref f args H = kC T.env H.length (Fr.ofArgs 0 args) H (.h (F.body, finR T.env F.results H.length)) := by
 rw [ref_eq T hF]
 unfold evalF
 rw [if_pos ha]
 simp only [kC]
 cases evalC T.env lpI H.length F.body ⟨Fr.ofArgs 0 args, H⟩ with
 | none => rfl
 | some x =>
  obtain ⟨e, s⟩ := x
  cases e with
  | exit id => rfl
  | norm =>
   simp only [finR]
   cases runG T.env (ghosts s.fr) s.H with
   | none => rfl
   | some H' => simp only [bo]; cases results s.fr H' F.results <;> rfl
  | ret =>
   simp only [finR]
   cases runG T.env (ghosts s.fr) s.H with
   | none => rfl
   | some H' => simp only [bo]; cases results s.fr H' F.results <;> rfl
section
variable {E : Env} {rs : List RV} {base : Nat} {fr : Fr} {H : Heap}
theorem finR_ret (h : ghosts fr = []) : finR E rs base .ret fr H = bo (results fr H rs) (.h fun vs => some (gcV base (packed vs) H)) := by
 simp only [finR, h]; rfl
theorem finR_norm (h : ghosts fr = []) : finR E rs base .norm fr H = bo (results fr H rs) (.h fun vs => some (gcV base (packed vs) H)) := by
 simp only [finR, h]; rfl
theorem put_0 (y x : Option Obj) (H : Heap) : Heap.put (y :: H) 0 x = x :: H := rfl
theorem put_s (y x : Option Obj) (H : Heap) (n : Nat) : Heap.put (y :: H) (n + 1) x = y :: Heap.put H n x := rfl
end
end Go.Sim
end
section
namespace Go.Sim
section
variable {R : Type} {E : Env} {ρ : Rand → PV} {H : Heap} {id : Nat} {q : PV → Heap → Option R}
def eqbK (neg : Bool) (x y : PV) {q : PV → Option R} (_ : Hd q) : Option R := match x, y with
 | .d (.b a), .d (.b b) => q (.d (.b (if neg = true then !(a == b) else a == b)))
 | _, _ => none
theorem eqbK_b (neg a b : Bool) {q : PV → Option R} : eqbK neg (.d (.b a)) (.d (.b b)) (.h q) = q (.d (.b (if neg = true then !(a == b) else a == b))) := rfl
theorem b_eqb {neg : Bool} {x y : Rand} : bo2 (evalOp E ρ H id (.eqb neg x y)) (.h q) = eqbK neg (ρ x) (ρ y) (.h fun v => q v H) := by
 simp only [evalOp, eqbK]
 cases ρ x with
 | d v =>
  cases v with
  | b a =>
   cases ρ y with
   | d w => cases w <;> rfl
   | _ => rfl
  | _ => rfl
 | _ => rfl
end
end Go.Sim
end
section
namespace Go.Sim
section
variable {R α : Type} {E : Env} {fr : Fr} {H : Heap} {bf : List Nat} {acc : List (List Nat × List Nat)} {id : Nat} {j : KO R}
def nfp (x : α) {k : α → Option R} (_ : Hd k) : Option R := k x
theorem nfp_go (x : α) (k : α → Option R) : nfp x (.h k) = k x := rfl
def accD (bf : List Nat) (acc : List (List Nat × List Nat)) (W T : List Nat) : Bool × List (List Nat × List Nat) := (pairsD (bf.headD 0) 0 acc (W ++ T) W, acc ++ [(W ++ T, W)])
noncomputable def aftD (E : Env) (id : Nat) (fr : Fr) (H : Heap) (bf : List Nat) (acc : List (List Nat × List Nat)) (o : IOper) (fr' : Fr) (H' : Heap) {r : List IOper} {j : KO R} (_ : Hd (r, j)) : Option R :=
 nfp (accD bf acc (writeS E o id ⟨fr, H⟩ ⟨fr', H'⟩) (touchS E o ⟨fr, H⟩)) (.h fun w => chk (w.1 = true) (.h (kD E (nid o.op id) fr' H' bf.tail w.2 (.h (r, j)))))
theorem kDq_nil : kD E id fr H bf acc (.h ([], j)) = j fr H := rfl
theorem kD_cons (o : IOper) (r : List IOper) : kD E id fr H bf acc (.h (o :: r, j)) = match stepD E o id ⟨fr, H⟩ with | some s' => aftD E id fr H bf acc o s'.fr s'.H (.h (r, j)) | none => none := by
 simp only [kD, evalOpsD]
 cases stepD E o id ⟨fr, H⟩ with
 | none => rfl
 | some s' =>
  obtain ⟨f, h⟩ := s'
  by_cases hp : pairsD (bf.headD 0) 0 acc (writeS E o id ⟨fr, H⟩ ⟨f, h⟩ ++ touchS E o ⟨fr, H⟩) (writeS E o id ⟨fr, H⟩ ⟨f, h⟩) = true
  ·simp only [aftD, nfp, accD, chk, nid, hp, if_true, kD]
  ·simp only [aftD, nfp, accD, chk, hp, if_false, Bool.false_eq_true]
theorem kDq_O {d : Nat} {op : IOp} {r : List IOper} : kD E id fr H bf acc (.h (⟨some d, op, none⟩ :: r, j)) = bo2 (evalOpD E (rd E fr) H id op) (.h fun v H' => aftD E id fr H bf acc ⟨some d, op, none⟩ (fr.set d v) H' (.h (r, j))) := by
 rw [kD_cons]; simp only [stepD, bo2]
 cases evalOpD E (rd E fr) H id op <;> rfl
theorem kDq_E {op : IOp} {r : List IOper} : kD E id fr H bf acc (.h (⟨none, op, none⟩ :: r, j)) = bo2 (evalOpD E (rd E fr) H id op) (.h fun _ H' => aftD E id fr H bf acc ⟨none, op, none⟩ fr H' (.h (r, j))) := by
 rw [kD_cons]; simp only [stepD, bo2]
 cases evalOpD E (rd E fr) H id op <;> rfl
theorem kDq_OG {d t : Nat} {w : Bool} {op : IOp} {r : List IOper} : kD E id fr H bf acc (.h (⟨some d, op, some (t, w)⟩ :: r, j)) =
  grd (fr.get t) w (.h (bo2 (evalOpD E (rd E (fr.fix t w)) H id op) (.h fun v H' => aftD E id (fr.fix t w) H bf acc ⟨some d, op, some (t, w)⟩ ((fr.fix t w).set d v) H' (.h (r, j))), aftD E id (fr.fix t (!w)) H bf acc ⟨some d, op, some (t, w)⟩ ((fr.fix t (!w)).set d (.t [])) H (.h (r, j)), aftD E id fr H bf acc ⟨some d, op, some (t, w)⟩ (fr.set d (.t [])) H (.h (r, j)))) := by
 rw [kD_cons]; simp only [stepD]
 cases h : fr.get t with
 | d v =>
  cases v with
  | b b =>
   by_cases hb : b = w
   ·subst hb
    rw [fix_eq h]
    simp only [grd, beq_self_eq_true, if_true, bo2]
    cases evalOpD E (rd E fr) H id op <;> rfl
   ·have e : (b == w) = false := by simpa using hb
    have e2 : b = !w := by cases b <;> cases w <;> simp_all
    have hf : fr.fix t (!w) = fr := fix_eq (by rw [h, e2])
    simp only [grd, e, if_neg hb, Bool.false_eq_true, if_false, hf]
  | _ => rfl
 | t vs => cases vs <;> rfl
 | _ => rfl
theorem kDq_EG {t : Nat} {w : Bool} {op : IOp} {r : List IOper} : kD E id fr H bf acc (.h (⟨none, op, some (t, w)⟩ :: r, j)) =
  grd (fr.get t) w (.h (bo2 (evalOpD E (rd E (fr.fix t w)) H id op) (.h fun _ H' => aftD E id (fr.fix t w) H bf acc ⟨none, op, some (t, w)⟩ (fr.fix t w) H' (.h (r, j))), aftD E id (fr.fix t (!w)) H bf acc ⟨none, op, some (t, w)⟩ (fr.fix t (!w)) H (.h (r, j)), aftD E id fr H bf acc ⟨none, op, some (t, w)⟩ fr H (.h (r, j)))) := by
 rw [kD_cons]; simp only [stepD]
 cases h : fr.get t with
 | d v =>
  cases v with
  | b b =>
   by_cases hb : b = w
   ·subst hb
    rw [fix_eq h]
    simp only [grd, beq_self_eq_true, if_true, bo2]
    cases evalOpD E (rd E fr) H id op <;> rfl
   ·have e : (b == w) = false := by simpa using hb
    have e2 : b = !w := by cases b <;> cases w <;> simp_all
    have hf : fr.fix t (!w) = fr := fix_eq (by rw [h, e2])
    simp only [grd, e, if_neg hb, Bool.false_eq_true, if_false, hf]
  | _ => rfl
 | t vs => cases vs <;> rfl
 | _ => rfl
theorem aftD_go {o : IOper} {fr' : Fr} {H' : Heap} {r : List IOper} : aftD E id fr H bf acc o fr' H' (.h (r, j)) = nfp (accD bf acc (writeS E o id ⟨fr, H⟩ ⟨fr', H'⟩) (touchS E o ⟨fr, H⟩)) (.h fun w => chk (w.1 = true) (.h (kD E (nid o.op id) fr' H' bf.tail w.2 (.h (r, j))))) := rfl
theorem d_mov {ρ : Rand → PV} {k : PV → Heap → Option R} {x : Rand} : bo2 (evalOpD E ρ H id (.mov x)) (.h k) = bo2 (evalOp E ρ H id (.mov x)) (.h k) := rfl
theorem d_pick {ρ : Rand → PV} {k : PV → Heap → Option R} {cx a b : Rand} : bo2 (evalOpD E ρ H id (.pick cx a b)) (.h k) = bo2 (evalOp E ρ H id (.pick cx a b)) (.h k) := rfl
theorem d_alloc {ρ : Rand → PV} {k : PV → Heap → Option R} {kx : Sim.K} {z : DV} : bo2 (evalOpD E ρ H id (.alloc kx z)) (.h k) = bo2 (evalOp E ρ H id (.alloc kx z)) (.h k) := rfl
theorem d_box {ρ : Rand → PV} {k : PV → Heap → Option R} {kx : Sim.K} {x : Rand} : bo2 (evalOpD E ρ H id (.box kx x)) (.h k) = bo2 (evalOp E ρ H id (.box kx x)) (.h k) := rfl
theorem d_agg {ρ : Rand → PV} {k : PV → Heap → Option R} {z : List DV} {parts : List (Nat × Sim.K × Rand)} : bo2 (evalOpD E ρ H id (.agg z parts)) (.h k) = bo2 (evalOp E ρ H id (.agg z parts)) (.h k) := rfl
theorem d_bsl {ρ : Rand → PV} {k : PV → Heap → Option R} {kx : Sim.K} {z : DV} {len : Nat} {parts : List (Nat × Rand)} : bo2 (evalOpD E ρ H id (.bsl kx z len parts)) (.h k) = bo2 (evalOp E ρ H id (.bsl kx z len parts)) (.h k) := rfl
theorem d_load {ρ : Rand → PV} {k : PV → Heap → Option R} {kx : Sim.K} {x : Rand} : bo2 (evalOpD E ρ H id (.load kx x)) (.h k) = bo2 (evalOp E ρ H id (.load kx x)) (.h k) := rfl
theorem d_store {ρ : Rand → PV} {k : PV → Heap → Option R} {kx : Sim.K} {x y : Rand} : bo2 (evalOpD E ρ H id (.store kx x y)) (.h k) = bo2 (evalOp E ρ H id (.store kx x y)) (.h k) := rfl
theorem d_bin {ρ : Rand → PV} {k : PV → Heap → Option R} {op : BinOp} {x y : Rand} : bo2 (evalOpD E ρ H id (.bin op x y)) (.h k) = bo2 (evalOp E ρ H id (.bin op x y)) (.h k) := rfl
theorem d_eqv {ρ : Rand → PV} {k : PV → Heap → Option R} {neg : Bool} {ks : List Nat} {x y : Rand} : bo2 (evalOpD E ρ H id (.eqv neg ks x y)) (.h k) = bo2 (evalOp E ρ H id (.eqv neg ks x y)) (.h k) := rfl
theorem d_eqb {ρ : Rand → PV} {k : PV → Heap → Option R} {neg : Bool} {x y : Rand} : bo2 (evalOpD E ρ H id (.eqb neg x y)) (.h k) = bo2 (evalOp E ρ H id (.eqb neg x y)) (.h k) := rfl
theorem d_isnil {ρ : Rand → PV} {k : PV → Heap → Option R} {neg : Bool} {kd : Nat} {x : Rand} : bo2 (evalOpD E ρ H id (.isnil neg kd x)) (.h k) = bo2 (evalOp E ρ H id (.isnil neg kd x)) (.h k) := rfl
theorem d_un {ρ : Rand → PV} {k : PV → Heap → Option R} {op : UnOp} {x : Rand} : bo2 (evalOpD E ρ H id (.un op x)) (.h k) = bo2 (evalOp E ρ H id (.un op x)) (.h k) := rfl
theorem d_conv {ρ : Rand → PV} {k : PV → Heap → Option R} {kx : IntKind} {x : Rand} : bo2 (evalOpD E ρ H id (.conv kx x)) (.h k) = bo2 (evalOp E ρ H id (.conv kx x)) (.h k) := rfl
theorem d_slS {ρ : Rand → PV} {k : PV → Heap → Option R} {x : Rand} {lo hi : Option Rand} : bo2 (evalOpD E ρ H id (.slS x lo hi)) (.h k) = bo2 (evalOp E ρ H id (.slS x lo hi)) (.h k) := rfl
theorem d_sl {ρ : Rand → PV} {k : PV → Heap → Option R} {kx : Sim.K} {x : Rand} {lo hi mx : Option Rand} : bo2 (evalOpD E ρ H id (.sl kx x lo hi mx)) (.h k) = bo2 (evalOp E ρ H id (.sl kx x lo hi mx)) (.h k) := rfl
theorem d_faddr {ρ : Rand → PV} {k : PV → Heap → Option R} {off : Nat} {x : Rand} : bo2 (evalOpD E ρ H id (.faddr off x)) (.h k) = bo2 (evalOp E ρ H id (.faddr off x)) (.h k) := rfl
theorem d_field {ρ : Rand → PV} {k : PV → Heap → Option R} {off : Nat} {kx : Sim.K} {x : Rand} : bo2 (evalOpD E ρ H id (.field off kx x)) (.h k) = bo2 (evalOp E ρ H id (.field off kx x)) (.h k) := rfl
theorem d_iaddr {ρ : Rand → PV} {k : PV → Heap → Option R} {kx : Sim.K} {x i : Rand} : bo2 (evalOpD E ρ H id (.iaddr kx x i)) (.h k) = bo2 (evalOp E ρ H id (.iaddr kx x i)) (.h k) := rfl
theorem d_iaddrA {ρ : Rand → PV} {k : PV → Heap → Option R} {len : Nat} {kx : Sim.K} {x i : Rand} : bo2 (evalOpD E ρ H id (.iaddrA len kx x i)) (.h k) = bo2 (evalOp E ρ H id (.iaddrA len kx x i)) (.h k) := rfl
theorem d_idxS {ρ : Rand → PV} {k : PV → Heap → Option R} {x i : Rand} : bo2 (evalOpD E ρ H id (.idxS x i)) (.h k) = bo2 (evalOp E ρ H id (.idxS x i)) (.h k) := rfl
theorem d_idxA {ρ : Rand → PV} {k : PV → Heap → Option R} {len : Nat} {kx : Sim.K} {x i : Rand} : bo2 (evalOpD E ρ H id (.idxA len kx x i)) (.h k) = bo2 (evalOp E ρ H id (.idxA len kx x i)) (.h k) := rfl
theorem d_len {ρ : Rand → PV} {k : PV → Heap → Option R} {str : Bool} {x : Rand} : bo2 (evalOpD E ρ H id (.len str x)) (.h k) = bo2 (evalOp E ρ H id (.len str x)) (.h k) := rfl
theorem d_ext {ρ : Rand → PV} {k : PV → Heap → Option R} {x : Rand} {i : Nat} : bo2 (evalOpD E ρ H id (.ext x i)) (.h k) = bo2 (evalOp E ρ H id (.ext x i)) (.h k) := rfl
theorem d_mkf {ρ : Rand → PV} {k : PV → Heap → Option R} {f : Nat} {caps : List Rand} : bo2 (evalOpD E ρ H id (.mkf f caps)) (.h k) = bo2 (evalOp E ρ H id (.mkf f caps)) (.h k) := rfl
theorem d_mkm {ρ : Rand → PV} {k : PV → Heap → Option R} {f : Nat} {caps : List Rand} : bo2 (evalOpD E ρ H id (.mkm f caps)) (.h k) = bo2 (evalOp E ρ H id (.mkm f caps)) (.h k) := rfl
theorem d_prim {ρ : Rand → PV} {k : PV → Heap → Option R} {p : Nat} {args : List Rand} : bo2 (evalOpD E ρ H id (.prim p args)) (.h k) = bo2 (evalOp E ρ H id (.prim p args)) (.h k) := rfl
theorem d_nilck {ρ : Rand → PV} {k : PV → Heap → Option R} {x : Rand} : bo2 (evalOpD E ρ H id (.nilck x)) (.h k) = bo2 (evalOp E ρ H id (.nilck x)) (.h k) := rfl
theorem d_mksl {ρ : Rand → PV} {k : PV → Heap → Option R} {kx : Sim.K} {bytes : Nat} {z : DV} {len cap : Rand} : bo2 (evalOpD E ρ H id (.mksl kx bytes z len cap)) (.h k) = bo2 (evalOp E ρ H id (.mksl kx bytes z len cap)) (.h k) := rfl
theorem d_minmax {ρ : Rand → PV} {k : PV → Heap → Option R} {mx : Bool} {args : List Rand} : bo2 (evalOpD E ρ H id (.minmax mx args)) (.h k) = bo2 (evalOp E ρ H id (.minmax mx args)) (.h k) := rfl
theorem d_mkif {ρ : Rand → PV} {k : PV → Heap → Option R} {t : Nat} {x : Rand} : bo2 (evalOpD E ρ H id (.mkif t x)) (.h k) = bo2 (evalOp E ρ H id (.mkif t x)) (.h k) := rfl
theorem d_tas {ρ : Rand → PV} {k : PV → Heap → Option R} {t : Nat} {z : DV} {ok : Bool} {x : Rand} : bo2 (evalOpD E ρ H id (.tas t z ok x)) (.h k) = bo2 (evalOp E ρ H id (.tas t z ok x)) (.h k) := rfl
theorem d_call0 {ρ : Rand → PV} {k : PV → Heap → Option R} {f : Nat} {args : List Rand} : bo2 (evalOpD E ρ H id (.call 0 f args)) (.h k) = bo2 (evalOp E ρ H id (.call 0 f args)) (.h k) := rfl
theorem d_call1 {ρ : Rand → PV} {k : PV → Heap → Option R} {f : Nat} {args : List Rand} : bo2 (evalOpD E ρ H id (.call 1 f args)) (.h k) = bo2 (evalOp E ρ H id (.call 1 f args)) (.h k) := rfl
end
end Go.Sim
end
section
namespace Go.Sim
theorem fits_i (k : IntKind) (n : Int) : fits none (.d (.i k n)) = true := rfl
theorem fits_b (b : Bool) : fits none (.d (.b b)) = true := rfl
theorem fits_s (l : List UInt8) : fits none (.d (.s l)) = true := rfl
theorem fits_l (k : K) (l : List DV) (t : Bool) : fits none (.d (.l k l t)) = true := rfl
theorem fits_a (n : Nat) (l : List DV) : fits (some n) (.d (.a l)) = (l.length == n) := rfl
theorem purT_t {H : Heap} {vs : List PV} : purT H (.t vs) = match purs H vs with | some (xs, _) => some (.t (xs.map .d), false) | none => none := rfl
theorem lt0_nat (j : Nat) : ((j : Int) < 0) = False := by simp
section
variable {R : Type} {E : Env} {ρ : Rand → PV} {H : Heap} {id : Nat} {q : PV → Heap → Option R}
theorem plains_d : ∀ z : List DV, plains (z.map .d) = some z
 | [] => rfl
 | x :: z => by simp [plains, plains_d z]
theorem b_agg0 {z : List DV} : bo2 (evalOp E ρ H id (.agg z [])) (.h q) = q (.d (.a z)) H := by
 simp only [evalOp, List.map_nil, aggA, mkA, plains_d]; rfl
end
end Go.Sim
end
section
namespace Go.Sim
section
variable {R : Type} {E : Env} {ρ : Rand → PV} {H : Heap} {id : Nat} {q : PV → Heap → Option R} {k : K} {b : Nat}
theorem pur_dv (v : DV) : pur H (.d v) = some (v, []) := rfl
theorem frz_n : frz H [] = H := rfl
theorem b_bsl0 {z : DV} : bo2 (evalOp E ρ H id (.bsl k z 0 [])) (.h q) = q (.r id k 0 0 true) (H.put id (some (.sl k 0 []))) := rfl
theorem b_bsl1 {z : DV} {r : Rand} : bo2 (evalOp E ρ H id (.bsl k z 1 [(0, r)])) (.h q) = chk (fits k (ρ r) = true) (.h (bo (pur H (ρ r)) (.h fun p => q (.r id k 0 1 true) ((frz H p.2).put id (some (.sl k 0 [p.1])))))) := by
 simp only [evalOp, List.map_cons, List.map_nil, bslA, chk]
 by_cases h : fits k (ρ r) = true
 ·simp only [h, if_true, Bool.true_and]
  cases pur H (ρ r) with
  | none => simp [bo, bo2]
  | some p => obtain ⟨x, os⟩ := p; simp [bo, bo2]
 ·simp [h, bo2]
def appE (H : Heap) (id : Nat) (k : K) (bytes : Nat) (x : PV) (ys : List DV) : Option (PV × Heap) := appA H id k bytes x (.d (.l k ys true))
theorem app_l {x : PV} {k' : K} {ys : List DV} {t : Bool} : bo2 (appA H id k b x (.d (.l k' ys t))) (.h q) = chk ((K.eq k k' || ys.isEmpty) = true) (.h (bo2 (appE H id k b x ys) (.h q))) := by
 simp only [appA, appE, elemsA, chk, K_refl, Bool.true_or, if_true]
 by_cases h : (K.eq k k' || ys.isEmpty) = true
 ·simp only [h, if_true]
 ·simp only [h, if_false, Bool.false_eq_true]; rfl
theorem app_r {x : PV} {o off len : Nat} {k' : K} {t : Bool} : bo2 (appA H id k b x (.r o k' off len t)) (.h q) = match H.obj o with | some (.sl k'' _ es) => chk ((K.eq k k' && K.eq k k'' && decide (off + len ≤ es.length)) = true) (.h (bo2 (appE H id k b x ((es.drop off).take len)) (.h q))) | _ => none := by
 simp only [appA, appE, elemsA]
 cases H.obj o with
 | none => rfl
 | some y =>
  cases y with
  | sl k'' ro es =>
   simp only [chk]
   by_cases h : (K.eq k k' && K.eq k k'' && decide (off + len ≤ es.length)) = true
   ·simp only [h, if_true, K_refl, Bool.true_or]
   ·simp only [h, if_false, Bool.false_eq_true]; rfl
  | _ => rfl
theorem appE_n {k' : K} {ys : List DV} : bo2 (appE H id k b (.d (.l k' [] true)) ys) (.h q) = chk (ys.length * b ≤ 2 ^ 47) (.h (q (.r id k 0 ys.length false) (H.put id (some (.sl k 0 ys))))) := by
 simp only [appE, appA, elemsA, K_refl, Bool.true_or, if_true, chk, List.length_nil, Nat.zero_add]
 by_cases h : ys.length * b ≤ 2 ^ 47
 ·simp only [h, if_true]; rfl
 ·simp only [h, if_false]; rfl
theorem appE_r {o off len : Nat} {k' : K} {t : Bool} {y : DV} {ys : List DV} : bo2 (appE H id k b (.r o k' off len t) (y :: ys)) (.h q) = match H.obj o with
  | some (.sl k'' ro es) => chk ((K.eq k k' && K.eq k k'' && decide (off + len ≤ es.length) && decide ((len + (ys.length + 1)) * b ≤ 2 ^ 47)) = true) (.h (brn t (.h (q (.r id k 0 (len + (ys.length + 1)) false) (H.put id (some (.sl k 0 ((es.drop off).take len ++ y :: ys)))), chk (ro ≤ off + len) (.h (q (.r id k 0 (len + (ys.length + 1)) false) ((H.put o none).put id (some (.sl k (ro - off) ((es.drop off).take len ++ y :: ys))))))))))
  | _ => none := by
 simp only [appE, appA, elemsA, K_refl, Bool.true_or, if_true, List.length_cons]
 cases H.obj o with
 | none => rfl
 | some w =>
  cases w with
  | sl k'' ro es =>
   simp only [chk]
   by_cases h : (K.eq k k' && K.eq k k'' && decide (off + len ≤ es.length) && decide ((len + (ys.length + 1)) * b ≤ 2 ^ 47)) = true
   ·simp only [h, if_true]
    cases t with
    | true => rfl
    | false =>
     simp only [Bool.false_eq_true, if_false, brn]
     by_cases g : ro ≤ off + len
     ·simp only [g, if_true]; rfl
     ·simp only [g, if_false]; rfl
   ·simp only [h, if_false, Bool.false_eq_true]; rfl
  | _ => rfl
def mkifK (t : Nat) (x : PV) (H : Heap) {q : PV → Heap → Option R} (_ : Hd q) : Option R := match pur H x with
 | some (v, os) => q (.d (.ifc t v)) (frz H os)
 | none => q (.w t x) H
theorem mkifK_d {t : Nat} {v : DV} : mkifK t (.d v) H (.h q) = q (.d (.ifc t v)) H := rfl
theorem b_mkif {t : Nat} {x : Rand} : bo2 (evalOp E ρ H id (.mkif t x)) (.h q) = mkifK t (ρ x) H (.h q) := by
 simp only [evalOp, mkifK]
 cases pur H (ρ x) with
 | none => rfl
 | some p => rfl
def tasK (t : Nat) (z : DV) (ok : Bool) (x : PV) {q : PV → Option R} (_ : Hd q) : Option R := match x with
 | .d (.ifc u v) => if u = t then q (if ok then .t [.d v, .d (.b true)] else .d v) else if ok then q (.t [.d z, .d (.b false)]) else none
 | .w u v => if u = t then q (if ok then .t [v, .d (.b true)] else v) else if ok then q (.t [.d z, .d (.b false)]) else none
 | .d .ni => if ok then q (.t [.d z, .d (.b false)]) else none
 | _ => none
theorem tasK_i {t u : Nat} {z v : DV} {ok : Bool} {q : PV → Option R} : tasK t z ok (.d (.ifc u v)) (.h q) = if u = t then q (if ok then .t [.d v, .d (.b true)] else .d v) else if ok then q (.t [.d z, .d (.b false)]) else none := rfl
theorem b_tas {t : Nat} {z : DV} {ok : Bool} {x : Rand} : bo2 (evalOp E ρ H id (.tas t z ok x)) (.h q) = tasK t z ok (ρ x) (.h fun v => q v H) := by
 simp only [evalOp, tasK]
 cases ρ x with
 | d v =>
  cases v with
  | ifc u w => by_cases h : u = t <;> cases ok <;> simp [h, bo2]
  | ni => cases ok <;> rfl
  | _ => rfl
 | w u v => by_cases h : u = t <;> cases ok <;> simp [h, bo2]
 | _ => rfl
theorem b_agg {z : List DV} {ps : List (Nat × Sim.K × Rand)} : bo2 (evalOp E ρ H id (.agg z ps)) (.h q) = bo (aggA (z.map .d) (ps.map fun x => (x.1, x.2.1, ρ x.2.2))) (.h fun cs => q (mkA cs) H) := by
 simp only [evalOp]
 cases aggA (z.map .d) (ps.map fun x => (x.1, x.2.1, ρ x.2.2)) <;> rfl
theorem size_n : K.size none = 1 := rfl
theorem b_mm2 {mx : Bool} {x y : Rand} : bo2 (evalOp E ρ H id (.minmax mx [x, y])) (.h q) = bo (mm2 mx (ρ x) (ρ y)) (.h fun v => q v H) := by
 simp only [evalOp, List.map_cons, List.map_nil, mmA]
 cases mm2 mx (ρ x) (ρ y) <;> rfl
theorem bo_mm2 {k : IntKind} {a b : Int} {y : PV → Option R} : bo (mm2 true (.d (.i k a)) (.d (.i k b))) (.h y) = y (.d (.i k (max a b))) := by
 have h : (if b > a then b else a) = max a b := by rw [Int.max_def]; split <;> split <;> omega
 simp only [mm2, if_true, h]
 rfl
theorem purT_f {t : Nat} {v : DV} : purT H (.d (.ifc t v)) = some (.d (.ifc t v), false) := rfl
theorem purT_r {o off len : Nat} {k : K} {t : Bool} : purT H (.r o k off len t) = match H.obj o with
  | some (.sl k' ro es) => if k' = k ∧ off + len ≤ es.length then some (.d (.l k ((es.drop off).take len) false), decide (ro ≤ off)) else none
  | _ => none := rfl
theorem bo_lenR {o off len : Nat} {k : K} {t : Bool} {y : Nat → Option R} : bo (lenA H false (.r o k off len t)) (.h y) = match H.obj o with
  | some (.sl _ _ es) => chk (off + len ≤ es.length) (.h (y len))
  | _ => none := by
 simp only [lenA, Bool.false_eq_true, if_false]
 cases H.obj o with
 | none => rfl
 | some w =>
  cases w with
  | sl k' ro es =>
   simp only [chk]
   by_cases h : off + len ≤ es.length
   ·simp only [h, if_true]; rfl
   ·simp only [h, if_false]; rfl
  | _ => rfl
end
end Go.Sim
end
section
namespace Go.Sim
def tabS : PT :=
 (.bin 1113 F1113 (.bin 866 F866 (.bin 787 F787 (.bin 26 F26 .nil .nil) .nil) (.bin 1112 F1112 (.bin 868 F868 .nil .nil) .nil)) (.bin 1116 F1116 (.bin 1115 F1115 (.bin 1114 F1114 .nil .nil) .nil) (.bin 1118 F1118 (.bin 1117 F1117 .nil .nil) .nil)))
abbrev HS (T : Tab) : Prop := ∀ n F, tabS.get n = some F → T.F n = some F
end Go.Sim
end
section
namespace Go.Sim
structure SL (α : Type) where
 l : List α
 t : Bool
structure AWide where
 Hi : Int
 Lo : Int
def AWide.cells (x : AWide) : List DV := [I x.Hi, .i .u64 x.Lo]
def AWide.dv (x : AWide) : DV := .a [I x.Hi, .i .u64 x.Lo]
@[simp] theorem AWide.fits (x : AWide) : Sim.fits (K1 2) (.d (AWide.dv x)) = true := rfl
@[simp] theorem AWide.purT (x : AWide) (H : Heap) : Sim.purT H (.d (AWide.dv x)) = some (.d (AWide.dv x), false) := rfl
@[simp] theorem AWide.clen (x : AWide) : (AWide.dv x).cells.length = 2 := rfl
@[simp] theorem AWide.aof (x : AWide) : DV.a (AWide.cells x) = AWide.dv x := rfl
@[simp] theorem AWide.ccl (x : AWide) : (AWide.cells x).length = 2 := rfl
@[simp] theorem AWide.c0 (x : AWide) : (AWide.dv x).cells[0]? = some (I x.Hi) := rfl
@[simp] theorem AWide.c1 (x : AWide) : (AWide.dv x).cells[1]? = some (.i .u64 x.Lo) := rfl
structure ALeg where
 Account : Int
 Amount : Int
 Currency : List UInt8
def ALeg.cells (x : ALeg) : List DV := [I x.Account, I x.Amount, .s x.Currency]
def ALeg.dv (x : ALeg) : DV := .a [I x.Account, I x.Amount, .s x.Currency]
@[simp] theorem ALeg.fits (x : ALeg) : Sim.fits (K1 3) (.d (ALeg.dv x)) = true := rfl
@[simp] theorem ALeg.purT (x : ALeg) (H : Heap) : Sim.purT H (.d (ALeg.dv x)) = some (.d (ALeg.dv x), false) := rfl
@[simp] theorem ALeg.clen (x : ALeg) : (ALeg.dv x).cells.length = 3 := rfl
@[simp] theorem ALeg.aof (x : ALeg) : DV.a (ALeg.cells x) = ALeg.dv x := rfl
@[simp] theorem ALeg.ccl (x : ALeg) : (ALeg.cells x).length = 3 := rfl
@[simp] theorem ALeg.c0 (x : ALeg) : (ALeg.dv x).cells[0]? = some (I x.Account) := rfl
@[simp] theorem ALeg.c1 (x : ALeg) : (ALeg.dv x).cells[1]? = some (I x.Amount) := rfl
@[simp] theorem ALeg.c2 (x : ALeg) : (ALeg.dv x).cells[2]? = some (.s x.Currency) := rfl
structure AEntry where
 Id : Int
 Booked : Int
 Value : Int
 Kind : Int
 Auth : Int
 Period : Int
 Key : List UInt8
 Text : List UInt8
 Legs : SL ALeg
 Chain : Int
def AEntry.cells (x : AEntry) : List DV := [I x.Id, I x.Booked, I x.Value, I x.Kind, I x.Auth, I x.Period, .s x.Key, .s x.Text, .l (K1 3) (x.Legs.l.map ALeg.dv) x.Legs.t, .i .u64 x.Chain]
def AEntry.dv (x : AEntry) : DV := .a [I x.Id, I x.Booked, I x.Value, I x.Kind, I x.Auth, I x.Period, .s x.Key, .s x.Text, .l (K1 3) (x.Legs.l.map ALeg.dv) x.Legs.t, .i .u64 x.Chain]
@[simp] theorem AEntry.fits (x : AEntry) : Sim.fits (K1 10) (.d (AEntry.dv x)) = true := rfl
@[simp] theorem AEntry.purT (x : AEntry) (H : Heap) : Sim.purT H (.d (AEntry.dv x)) = some (.d (AEntry.dv x), false) := rfl
@[simp] theorem AEntry.clen (x : AEntry) : (AEntry.dv x).cells.length = 10 := rfl
@[simp] theorem AEntry.aof (x : AEntry) : DV.a (AEntry.cells x) = AEntry.dv x := rfl
@[simp] theorem AEntry.ccl (x : AEntry) : (AEntry.cells x).length = 10 := rfl
@[simp] theorem AEntry.c0 (x : AEntry) : (AEntry.dv x).cells[0]? = some (I x.Id) := rfl
@[simp] theorem AEntry.c1 (x : AEntry) : (AEntry.dv x).cells[1]? = some (I x.Booked) := rfl
@[simp] theorem AEntry.c2 (x : AEntry) : (AEntry.dv x).cells[2]? = some (I x.Value) := rfl
@[simp] theorem AEntry.c3 (x : AEntry) : (AEntry.dv x).cells[3]? = some (I x.Kind) := rfl
@[simp] theorem AEntry.c4 (x : AEntry) : (AEntry.dv x).cells[4]? = some (I x.Auth) := rfl
@[simp] theorem AEntry.c5 (x : AEntry) : (AEntry.dv x).cells[5]? = some (I x.Period) := rfl
@[simp] theorem AEntry.c6 (x : AEntry) : (AEntry.dv x).cells[6]? = some (.s x.Key) := rfl
@[simp] theorem AEntry.c7 (x : AEntry) : (AEntry.dv x).cells[7]? = some (.s x.Text) := rfl
@[simp] theorem AEntry.c8 (x : AEntry) : (AEntry.dv x).cells[8]? = some (.l (K1 3) (x.Legs.l.map ALeg.dv) x.Legs.t) := rfl
@[simp] theorem AEntry.c9 (x : AEntry) : (AEntry.dv x).cells[9]? = some (.i .u64 x.Chain) := rfl
structure APeriod where
 Account : Int
 From : Int
 To : Int
 Credit : Int
 Debit : Int
 Tax : Int
 Count : Int
 CreditRest : AWide
 DebitRest : AWide
def APeriod.cells (x : APeriod) : List DV := [I x.Account, I x.From, I x.To, I x.Credit, I x.Debit, I x.Tax, I x.Count, I x.CreditRest.Hi, .i .u64 x.CreditRest.Lo, I x.DebitRest.Hi, .i .u64 x.DebitRest.Lo]
def APeriod.dv (x : APeriod) : DV := .a [I x.Account, I x.From, I x.To, I x.Credit, I x.Debit, I x.Tax, I x.Count, I x.CreditRest.Hi, .i .u64 x.CreditRest.Lo, I x.DebitRest.Hi, .i .u64 x.DebitRest.Lo]
@[simp] theorem APeriod.fits (x : APeriod) : Sim.fits (K1 11) (.d (APeriod.dv x)) = true := rfl
@[simp] theorem APeriod.purT (x : APeriod) (H : Heap) : Sim.purT H (.d (APeriod.dv x)) = some (.d (APeriod.dv x), false) := rfl
@[simp] theorem APeriod.clen (x : APeriod) : (APeriod.dv x).cells.length = 11 := rfl
@[simp] theorem APeriod.aof (x : APeriod) : DV.a (APeriod.cells x) = APeriod.dv x := rfl
@[simp] theorem APeriod.ccl (x : APeriod) : (APeriod.cells x).length = 11 := rfl
@[simp] theorem APeriod.n7_2 (x : APeriod) : ((APeriod.dv x).cells.drop 7).take 2 = AWide.cells x.CreditRest := rfl
@[simp] theorem APeriod.n9_2 (x : APeriod) : ((APeriod.dv x).cells.drop 9).take 2 = AWide.cells x.DebitRest := rfl
@[simp] theorem APeriod.c0 (x : APeriod) : (APeriod.dv x).cells[0]? = some (I x.Account) := rfl
@[simp] theorem APeriod.c1 (x : APeriod) : (APeriod.dv x).cells[1]? = some (I x.From) := rfl
@[simp] theorem APeriod.c2 (x : APeriod) : (APeriod.dv x).cells[2]? = some (I x.To) := rfl
@[simp] theorem APeriod.c3 (x : APeriod) : (APeriod.dv x).cells[3]? = some (I x.Credit) := rfl
@[simp] theorem APeriod.c4 (x : APeriod) : (APeriod.dv x).cells[4]? = some (I x.Debit) := rfl
@[simp] theorem APeriod.c5 (x : APeriod) : (APeriod.dv x).cells[5]? = some (I x.Tax) := rfl
@[simp] theorem APeriod.c6 (x : APeriod) : (APeriod.dv x).cells[6]? = some (I x.Count) := rfl
@[simp] theorem APeriod.c7 (x : APeriod) : (APeriod.dv x).cells[7]? = some (I x.CreditRest.Hi) := rfl
@[simp] theorem APeriod.c8 (x : APeriod) : (APeriod.dv x).cells[8]? = some (.i .u64 x.CreditRest.Lo) := rfl
@[simp] theorem APeriod.c9 (x : APeriod) : (APeriod.dv x).cells[9]? = some (I x.DebitRest.Hi) := rfl
@[simp] theorem APeriod.c10 (x : APeriod) : (APeriod.dv x).cells[10]? = some (.i .u64 x.DebitRest.Lo) := rfl
end Go.Sim
end
section
namespace Go.Sim
theorem hasL_cons {t : Ty} {ts : List Ty} {xs : List DV} (h : HasL (t :: ts) xs) : ∃ x r, xs = x :: r ∧ Has t x ∧ HasL ts r := by
 cases xs with
 | nil => simp [HasL] at h
 | cons x r => rw [HasL] at h; exact ⟨x, r, rfl, h.1, h.2⟩
theorem hasL_nil {xs : List DV} (h : HasL [] xs) : xs = [] := by
 cases xs with
 | nil => rfl
 | cons x r => simp [HasL] at h
theorem has_i {k : IntKind} {x : DV} (h : Has (.i k) x) : ∃ n, x = .i k n ∧ (Lit.int k n).wf = true := by rw [Has] at h; exact h
theorem has_s {x : DV} (h : Has .s x) : ∃ l, x = .s l ∧ l.length ≤ maxLen := by rw [Has] at h; exact h
theorem mkD_some {n : Nat} {xs : List DV} {e : DV} (h : mkD (some n) xs = some e) : e = .a xs := by
 simp only [mkD] at h
 split at h
 ·cases h; rfl
 ·cases h
theorem mkD_none {xs : List DV} {e : DV} (h : mkD none xs = some e) : xs = [e] := by
 simp only [mkD] at h
 split at h
 ·cases h; rfl
 ·cases h
end Go.Sim
end
section
namespace Go.Sim
def inK (k : IntKind) (n : Int) : Prop := (Lit.int k n).wf = true
theorem list_of' {α : Type} {f : α → DV} {p : α → Prop} : ∀ {es : List DV}, (∀ e ∈ es, ∃ a, e = f a ∧ p a) → ∃ l : List α, es = l.map f ∧ ∀ a ∈ l, p a
 | [], _ => ⟨[], rfl, fun a h => by cases h⟩
 | e :: es, h => by
  obtain ⟨a, ha, hp⟩ := h e (List.mem_cons_self ..)
  obtain ⟨l, hl, hq⟩ := list_of' (fun x hx => h x (List.mem_cons_of_mem _ hx))
  refine ⟨a :: l, by rw [ha, hl]; rfl, fun b hb => ?_⟩
  rcases List.mem_cons.1 hb with rfl | hb
  ·exact hp
  ·exact hq b hb
theorem to_l {α : Type} {f : α → DV} {p : α → Prop} {n : Nat} {ts : List Ty} {x : DV} (h : Has (.l (some n) ts) x) (hf : ∀ cs, HasL ts cs → ∃ a, DV.a cs = f a ∧ p a) : ∃ s : SL α, x = .l (some n) (s.l.map f) s.t ∧ s.l.length ≤ maxLen ∧ ∀ a ∈ s.l, p a := by
 rw [Has] at h
 obtain ⟨es, rfl, h1, h2⟩ := h
 obtain ⟨l, rfl, hp⟩ := list_of' (f := f) (p := p) (es := es) fun e he => by
  obtain ⟨cs, h3, h4⟩ := h2 e he
  obtain ⟨a, ha, hp⟩ := hf cs h4
  exact ⟨a, by rw [mkD_some h3]; exact ha, hp⟩
 exact ⟨⟨l, false⟩, rfl, by simpa using h1, hp⟩
def AWide.ok (x : AWide) : Prop := inK .i64 x.Hi ∧ inK .u64 x.Lo
def AWide.ty : List Ty := [.i .i64, .i .u64]
theorem AWide.of (cs : List DV) (h : HasL AWide.ty cs) : ∃ x : AWide, DV.a cs = x.dv ∧ x.ok := by
 obtain ⟨_, _, rfl, h0, h⟩ := hasL_cons h
 obtain ⟨_, _, rfl, h1, h⟩ := hasL_cons h
 obtain rfl := hasL_nil h
 obtain ⟨Hi, rfl, p_Hi⟩ := has_i h0
 obtain ⟨Lo, rfl, p_Lo⟩ := has_i h1
 exact ⟨⟨Hi, Lo⟩, rfl, ⟨p_Hi, p_Lo⟩⟩
def ALeg.ok (x : ALeg) : Prop := inK .i64 x.Account ∧ inK .i64 x.Amount ∧ x.Currency.length ≤ maxLen
def ALeg.ty : List Ty := [.i .i64, .i .i64, .s]
theorem ALeg.of (cs : List DV) (h : HasL ALeg.ty cs) : ∃ x : ALeg, DV.a cs = x.dv ∧ x.ok := by
 obtain ⟨_, _, rfl, h0, h⟩ := hasL_cons h
 obtain ⟨_, _, rfl, h1, h⟩ := hasL_cons h
 obtain ⟨_, _, rfl, h2, h⟩ := hasL_cons h
 obtain rfl := hasL_nil h
 obtain ⟨Account, rfl, p_Account⟩ := has_i h0
 obtain ⟨Amount, rfl, p_Amount⟩ := has_i h1
 obtain ⟨Currency, rfl, p_Currency⟩ := has_s h2
 exact ⟨⟨Account, Amount, Currency⟩, rfl, ⟨p_Account, p_Amount, p_Currency⟩⟩
def AEntry.ok (x : AEntry) : Prop := inK .i64 x.Id ∧ inK .i64 x.Booked ∧ inK .i64 x.Value ∧ inK .i64 x.Kind ∧ inK .i64 x.Auth ∧ inK .i64 x.Period ∧ x.Key.length ≤ maxLen ∧ x.Text.length ≤ maxLen ∧ (x.Legs.l.length ≤ maxLen ∧ ∀ y ∈ x.Legs.l, y.ok) ∧ inK .u64 x.Chain
def AEntry.ty : List Ty := [.i .i64, .i .i64, .i .i64, .i .i64, .i .i64, .i .i64, .s, .s, .l (K1 3) ALeg.ty, .i .u64]
theorem AEntry.of (cs : List DV) (h : HasL AEntry.ty cs) : ∃ x : AEntry, DV.a cs = x.dv ∧ x.ok := by
 obtain ⟨_, _, rfl, h0, h⟩ := hasL_cons h
 obtain ⟨_, _, rfl, h1, h⟩ := hasL_cons h
 obtain ⟨_, _, rfl, h2, h⟩ := hasL_cons h
 obtain ⟨_, _, rfl, h3, h⟩ := hasL_cons h
 obtain ⟨_, _, rfl, h4, h⟩ := hasL_cons h
 obtain ⟨_, _, rfl, h5, h⟩ := hasL_cons h
 obtain ⟨_, _, rfl, h6, h⟩ := hasL_cons h
 obtain ⟨_, _, rfl, h7, h⟩ := hasL_cons h
 obtain ⟨_, _, rfl, h8, h⟩ := hasL_cons h
 obtain ⟨_, _, rfl, h9, h⟩ := hasL_cons h
 obtain rfl := hasL_nil h
 obtain ⟨Id, rfl, p_Id⟩ := has_i h0
 obtain ⟨Booked, rfl, p_Booked⟩ := has_i h1
 obtain ⟨Value, rfl, p_Value⟩ := has_i h2
 obtain ⟨Kind, rfl, p_Kind⟩ := has_i h3
 obtain ⟨Auth, rfl, p_Auth⟩ := has_i h4
 obtain ⟨Period, rfl, p_Period⟩ := has_i h5
 obtain ⟨Key, rfl, p_Key⟩ := has_s h6
 obtain ⟨Text, rfl, p_Text⟩ := has_s h7
 obtain ⟨Legs, rfl, p_Legs⟩ := (fun h => to_l h ALeg.of) h8
 obtain ⟨Chain, rfl, p_Chain⟩ := has_i h9
 exact ⟨⟨Id, Booked, Value, Kind, Auth, Period, Key, Text, Legs, Chain⟩, rfl, ⟨p_Id, p_Booked, p_Value, p_Kind, p_Auth, p_Period, p_Key, p_Text, p_Legs, p_Chain⟩⟩
def APeriod.ok (x : APeriod) : Prop := inK .i64 x.Account ∧ inK .i64 x.From ∧ inK .i64 x.To ∧ inK .i64 x.Credit ∧ inK .i64 x.Debit ∧ inK .i64 x.Tax ∧ inK .i64 x.Count ∧ x.CreditRest.ok ∧ x.DebitRest.ok
def APeriod.ty : List Ty := [.i .i64, .i .i64, .i .i64, .i .i64, .i .i64, .i .i64, .i .i64, .i .i64, .i .u64, .i .i64, .i .u64]
theorem APeriod.of (cs : List DV) (h : HasL APeriod.ty cs) : ∃ x : APeriod, DV.a cs = x.dv ∧ x.ok := by
 obtain ⟨_, _, rfl, h0, h⟩ := hasL_cons h
 obtain ⟨_, _, rfl, h1, h⟩ := hasL_cons h
 obtain ⟨_, _, rfl, h2, h⟩ := hasL_cons h
 obtain ⟨_, _, rfl, h3, h⟩ := hasL_cons h
 obtain ⟨_, _, rfl, h4, h⟩ := hasL_cons h
 obtain ⟨_, _, rfl, h5, h⟩ := hasL_cons h
 obtain ⟨_, _, rfl, h6, h⟩ := hasL_cons h
 obtain ⟨_, _, rfl, h7, h⟩ := hasL_cons h
 obtain ⟨_, _, rfl, h8, h⟩ := hasL_cons h
 obtain ⟨_, _, rfl, h9, h⟩ := hasL_cons h
 obtain ⟨_, _, rfl, h10, h⟩ := hasL_cons h
 obtain rfl := hasL_nil h
 obtain ⟨Account, rfl, p_Account⟩ := has_i h0
 obtain ⟨From, rfl, p_From⟩ := has_i h1
 obtain ⟨To, rfl, p_To⟩ := has_i h2
 obtain ⟨Credit, rfl, p_Credit⟩ := has_i h3
 obtain ⟨Debit, rfl, p_Debit⟩ := has_i h4
 obtain ⟨Tax, rfl, p_Tax⟩ := has_i h5
 obtain ⟨Count, rfl, p_Count⟩ := has_i h6
 obtain ⟨CreditRest_Hi, rfl, p_CreditRest_Hi⟩ := has_i h7
 obtain ⟨CreditRest_Lo, rfl, p_CreditRest_Lo⟩ := has_i h8
 obtain ⟨DebitRest_Hi, rfl, p_DebitRest_Hi⟩ := has_i h9
 obtain ⟨DebitRest_Lo, rfl, p_DebitRest_Lo⟩ := has_i h10
 exact ⟨⟨Account, From, To, Credit, Debit, Tax, Count, ⟨CreditRest_Hi, CreditRest_Lo⟩, ⟨DebitRest_Hi, DebitRest_Lo⟩⟩, rfl, ⟨p_Account, p_From, p_To, p_Credit, p_Debit, p_Tax, p_Count, ⟨p_CreditRest_Hi, p_CreditRest_Lo⟩, ⟨p_DebitRest_Hi, p_DebitRest_Lo⟩⟩⟩
end Go.Sim
end
section
open Go.Sim
attribute [local simp ↓] kC_skip kC_ret kC_exit kC_seq kC_block kC_reg kC_cond kC_condc sqK blK lpK kO_nil kO_O kO_E kO_OG kO_EG grd_b grd_t tst_b brn_true brn_false brn_not chk_T b_mov b_pick b_alloc b_box b_load b_store b_bin b_un b_eqv b_faddr b_field b_iaddr b_sl b_len b_app b_call b_call1 b_callR b_ext bo_some bo_none bo2_some bo2_none bo_iaddr bo_addS bo_quo bo_rem bo_bnd bo_bnd0 ld_q0 ld_qw ld_p subP0 subPw bo_moveP bo_moveQ bo_lenl bo_lens bo_lenr bo_add bo_sub bo_mul bo_eql bo_neq bo_lss bo_leq bo_gtr bo_geq bo_neg bo_not bo_eqS bo_neS grd_nb b_slS slSK_s extK_t ownL_l fin_ret fin_norm bo_res0 bo_rest bo_resc st_p stK_box b_callv callvK_f0 callvK_f1 mkf_b subPs ld_qs kC_regS0 kC_regS1 kC_regS2 kC_regS3 kC_regS4 kC_regS5 b_eqb eqbK_b
attribute [local simp] K_refl obj_0 obj_s get_c get_n drop_c drop_n set_c set_n fix_c fix_n rd IOp.adds nadds gh nid rgK rdS ghosts_c ghosts_n packed1 packed2 purT_b purT_i purT_s purT_a purT_lt purT_lf K_ss K_ns K_sn plains_n plains_c env_val env_ref purs_n purs_d put_0 put_s
section
namespace Go.Sim
set_option maxRecDepth 10000
set_option maxHeartbeats 2000000
section
variable {α : Type}
end
end Go.Sim
end
end
section
namespace Go.Sim
end Go.Sim
end
section
open Go.Sim
attribute [local simp ↓] kC_skip kC_ret kC_exit kC_seq kC_block kC_reg kC_cond kC_condc sqK blK lpK kO_nil kO_O kO_E kO_OG kO_EG grd_b grd_t tst_b brn_true brn_false brn_not chk_T b_mov b_pick b_alloc b_box b_load b_store b_bin b_un b_eqv b_faddr b_field b_iaddr b_sl b_len b_app b_call b_call1 b_callR b_ext bo_some bo_none bo2_some bo2_none bo_iaddr bo_addS bo_quo bo_rem bo_bnd bo_bnd0 ld_q0 ld_qw ld_p subP0 subPw bo_moveP bo_moveQ bo_lenl bo_lens bo_lenr bo_add bo_sub bo_mul bo_eql bo_neq bo_lss bo_leq bo_gtr bo_geq bo_neg bo_not bo_eqS bo_neS grd_nb b_slS slSK_s extK_t ownL_l fin_ret fin_norm bo_res0 bo_rest bo_resc st_p stK_box b_callv callvK_f0 callvK_f1 mkf_b subPs ld_qs kC_regS0 kC_regS1 kC_regS2 kC_regS3 kC_regS4 kC_regS5 b_eqb eqbK_b b_agg0
attribute [local simp] K_refl obj_0 obj_s get_c get_n drop_c drop_n set_c set_n fix_c fix_n rd IOp.adds nadds gh nid rgK rdS ghosts_c ghosts_n packed1 packed2 purT_b purT_i purT_s purT_a purT_lt purT_lf K_ss K_ns K_sn plains_n plains_c env_val env_ref purs_n purs_d put_0 put_s fits_i fits_b fits_s fits_l lt0_nat fits_a purT_t
section
namespace Go.Sim
set_option maxRecDepth 10000
set_option maxHeartbeats 4000000
end Go.Sim
end
section
namespace Go.Sim
set_option maxRecDepth 10000
set_option maxHeartbeats 4000000
def foldN {α β : Type} (f : Nat → β → α → β) : Nat → β → List α → β
  | _, b, [] => b
  | i, b, x :: r => foldN f (i + 1) (f i b x) r
theorem rounds_fold {α β R : Type} (f : Nat → β → α → β) (done : β → Option R) (step : Nat → β → α → (β → Option R) → Option R) (hs : ∀ i b x c, step i b x c = c (f i b x)) : ∀ (i : Nat) (b : β) (ls : List α), rounds step done i b ls = done (foldN f i b ls)
  | i, b, [] => rfl
  | i, b, x :: l => by rw [rounds, hs, foldN, rounds_fold f done step hs (i + 1)]
end Go.Sim
end
section
namespace Go.Sim
set_option maxRecDepth 10000
set_option maxHeartbeats 4000000
end Go.Sim
end
section
namespace Go.Sim
set_option maxRecDepth 10000
set_option maxHeartbeats 4000000
end Go.Sim
end
end
section
open Go.Sim
attribute [local simp ↓] kC_skip kC_ret kC_exit kC_seq kC_block kC_reg kC_cond kC_condc sqK blK lpK kO_nil kO_O kO_E kO_OG kO_EG grd_b grd_t tst_b brn_true brn_false brn_not chk_T b_mov b_pick b_alloc b_box b_load b_store b_bin b_un b_eqv b_faddr b_field b_iaddr b_sl b_len b_app b_call b_call1 b_callR b_ext bo_some bo_none bo2_some bo2_none bo_iaddr bo_addS bo_quo bo_rem bo_bnd bo_bnd0 ld_q0 ld_qw ld_p subP0 subPw bo_moveP bo_moveQ bo_lenl bo_lens bo_lenr bo_add bo_sub bo_mul bo_eql bo_neq bo_lss bo_leq bo_gtr bo_geq bo_neg bo_not bo_eqS bo_neS grd_nb b_slS slSK_s extK_t ownL_l fin_ret fin_norm bo_res0 bo_rest bo_resc st_p stK_box b_callv callvK_f0 callvK_f1 mkf_b subPs ld_qs kC_regS0 kC_regS1 kC_regS2 kC_regS3 kC_regS4 kC_regS5 b_eqb eqbK_b b_agg0 b_bsl0 b_bsl1 app_l app_r appE_n appE_r bo_lenR b_mkif mkifK_d b_tas tasK_i
attribute [local simp] K_refl obj_0 obj_s get_c get_n drop_c drop_n set_c set_n fix_c fix_n rd IOp.adds nadds gh nid rgK rdS ghosts_c ghosts_n packed1 packed2 purT_b purT_i purT_s purT_a purT_lt purT_lf K_ss K_ns K_sn plains_n plains_c env_val env_ref purs_n purs_d put_0 put_s fits_i fits_b fits_s fits_l lt0_nat fits_a purT_t pur_dv frz_n purT_r purT_f
section
namespace Go.Sim
set_option maxRecDepth 10000
set_option maxHeartbeats 4000000
def outV2 (k : K) : List DV → PV
  | [] => .r 0 k 0 0 true
  | _x :: r => .r 0 k 0 (r.length + 1) false
def outO2 (k : K) (l : List DV) : Heap := [some (.sl k 0 l)]
end Go.Sim
end
section
namespace Go.Sim
set_option maxRecDepth 10000
set_option maxHeartbeats 4000000
end Go.Sim
end
section
namespace Go.Sim
set_option maxRecDepth 10000
set_option maxHeartbeats 4000000
end Go.Sim
end
end
section
open Go.Sim
attribute [local simp ↓] kC_skip kC_ret kC_exit kC_seq kC_block kC_reg kC_cond kC_condc sqK blK lpK kO_nil kO_O kO_E kO_OG kO_EG grd_b grd_t tst_b brn_true brn_false brn_not chk_T b_mov b_pick b_alloc b_box b_load b_store b_bin b_un b_eqv b_faddr b_field b_iaddr b_sl b_len b_app b_call b_call1 b_callR b_ext bo_some bo_none bo2_some bo2_none bo_iaddr bo_addS bo_quo bo_rem bo_bnd bo_bnd0 ld_q0 ld_qw ld_p subP0 subPw bo_moveP bo_moveQ bo_lenl bo_lens bo_lenr bo_add bo_sub bo_mul bo_eql bo_neq bo_lss bo_leq bo_gtr bo_geq bo_neg bo_not bo_eqS bo_neS grd_nb b_slS slSK_s extK_t ownL_l fin_ret fin_norm bo_res0 bo_rest bo_resc st_p stK_box b_callv callvK_f0 callvK_f1 mkf_b subPs ld_qs kC_regS0 kC_regS1 kC_regS2 kC_regS3 kC_regS4 kC_regS5 b_eqb eqbK_b b_agg0 b_bsl0 b_bsl1 app_l app_r appE_n appE_r bo_lenR b_mkif mkifK_d b_tas tasK_i b_mm2 bo_mm2
attribute [local simp] K_refl obj_0 obj_s get_c get_n drop_c drop_n set_c set_n fix_c fix_n rd IOp.adds nadds gh nid rgK rdS ghosts_c ghosts_n packed1 packed2 purT_b purT_i purT_s purT_a purT_lt purT_lf K_ss K_ns K_sn plains_n plains_c env_val env_ref purs_n purs_d put_0 put_s fits_i fits_b fits_s fits_l lt0_nat fits_a purT_t pur_dv frz_n purT_r purT_f
section
namespace Go.Sim
set_option maxRecDepth 10000
set_option maxHeartbeats 4000000
end Go.Sim
end
section
namespace Go.Sim
set_option maxRecDepth 10000
set_option maxHeartbeats 4000000
end Go.Sim
end
end
section
namespace Go.Sim
def lsb {α : Type} (f : α → α → Bool) : List α → List α → Bool
 | [], [] => true
 | x :: xs, y :: ys => f x y && lsb f xs ys
 | _, _ => false
theorem lsb_refl {α : Type} {f : α → α → Bool} (h : ∀ x, f x x = true) : ∀ l, lsb f l l = true
 | [] => rfl
 | x :: l => by simp [lsb, h, lsb_refl h l]
def ibq (x y : Int) : Bool := x == y
theorem ibq_refl (x : Int) : ibq x x = true := by simp [ibq]
def sbq (x y : List UInt8) : Bool := x == y
theorem sbq_refl (x : List UInt8) : sbq x x = true := by simp [sbq]
def AWide.beq (x y : AWide) : Bool := ibq x.Hi y.Hi && ibq x.Lo y.Lo
theorem AWide.beq_refl (x : AWide) : AWide.beq x x = true := by
 simp only [AWide.beq, ibq_refl, Bool.and_true]
def ALeg.beq (x y : ALeg) : Bool := ibq x.Account y.Account && ibq x.Amount y.Amount && sbq x.Currency y.Currency
theorem ALeg.beq_refl (x : ALeg) : ALeg.beq x x = true := by
 simp only [ALeg.beq, ibq_refl, sbq_refl, Bool.and_true]
def AEntry.beq (x y : AEntry) : Bool := ibq x.Id y.Id && ibq x.Booked y.Booked && ibq x.Value y.Value && ibq x.Kind y.Kind && ibq x.Auth y.Auth && ibq x.Period y.Period && sbq x.Key y.Key && sbq x.Text y.Text && lsb ALeg.beq x.Legs.l y.Legs.l && ibq x.Chain y.Chain
theorem AEntry.beq_refl (x : AEntry) : AEntry.beq x x = true := by
 simp only [AEntry.beq, ibq_refl, sbq_refl, lsb_refl ALeg.beq_refl, Bool.and_true]
def APeriod.beq (x y : APeriod) : Bool := ibq x.Account y.Account && ibq x.From y.From && ibq x.To y.To && ibq x.Credit y.Credit && ibq x.Debit y.Debit && ibq x.Tax y.Tax && ibq x.Count y.Count && AWide.beq x.CreditRest y.CreditRest && AWide.beq x.DebitRest y.DebitRest
theorem APeriod.beq_refl (x : APeriod) : APeriod.beq x x = true := by
 simp only [APeriod.beq, ibq_refl, AWide.beq_refl, Bool.and_true]
end Go.Sim
end
section
open Go.Sim
attribute [local simp ↓] kC_skip kC_ret kC_exit kC_seq kC_block kC_reg kC_cond kC_condc sqK blK lpK kO_nil kO_O kO_E kO_OG kO_EG grd_b grd_t tst_b brn_true brn_false brn_not chk_T b_mov b_pick b_alloc b_box b_load b_store b_bin b_un b_eqv b_faddr b_field b_iaddr b_sl b_len b_app b_call b_call1 b_callR b_ext bo_some bo_none bo2_some bo2_none bo_iaddr bo_addS bo_quo bo_rem bo_bnd bo_bnd0 ld_q0 ld_qw ld_p subP0 subPw bo_moveP bo_moveQ bo_lenl bo_lens bo_lenr bo_add bo_sub bo_mul bo_eql bo_neq bo_lss bo_leq bo_gtr bo_geq bo_neg bo_not bo_eqS bo_neS grd_nb b_slS slSK_s extK_t ownL_l fin_ret fin_norm bo_res0 bo_rest bo_resc st_p stK_box b_callv callvK_f0 callvK_f1 mkf_b subPs ld_qs kC_regS0 kC_regS1 kC_regS2 kC_regS3 kC_regS4 kC_regS5 b_eqb eqbK_b b_agg0 b_bsl0 b_bsl1 app_l app_r appE_n appE_r bo_lenR b_mkif mkifK_d b_tas tasK_i b_mm2 bo_mm2
attribute [local simp] K_refl obj_0 obj_s get_c get_n drop_c drop_n set_c set_n fix_c fix_n rd IOp.adds nadds gh nid rgK rdS ghosts_c ghosts_n packed1 packed2 purT_b purT_i purT_s purT_a purT_lt purT_lf K_ss K_ns K_sn plains_n plains_c env_val env_ref purs_n purs_d put_0 put_s fits_i fits_b fits_s fits_l lt0_nat fits_a purT_t pur_dv frz_n purT_r purT_f
section
namespace Go.Sim
end Go.Sim
end
section
namespace Go.Sim
set_option maxRecDepth 10000
set_option maxHeartbeats 4000000
end Go.Sim
end
section
namespace Go.Sim
set_option maxRecDepth 10000
set_option maxHeartbeats 8000000
end Go.Sim
end
section
namespace Go.Sim
set_option maxRecDepth 10000
set_option maxHeartbeats 8000000
end Go.Sim
end
end
section
namespace Go.Sim
section
variable {R : Type} {E : Env} {base : Nat} {fr : Fr} {H : Heap} {k : KC R}
noncomputable def rngK (E : Env) (a x : PC) (fr : Fr) (o : Nat) (ps : List Nat) : Nat → List PV → Heap → Option (PV × Heap) := rngY (fun b s => evalC E lpI b a s) (fun b s => evalC E lpI b x s) fr o ps E.yld
def rngE (k : KC R) (fr : Fr) (g o : Nat) (H : Heap) : Option R := match H.obj o with
 | some (.lp 0 none) => k .norm (fr.set g (.g (.h (o + 1)))) (H.put o none)
 | some (.lp 1 (some e)) => k e (fr.set g (.g (.h (o + 1)))) (H.put o none)
 | _ => none
noncomputable def rngS (E : Env) (fr : Fr) (H : Heap) (a x : PC) (live ps : List Nat) (g : Nat) (v w : PV) {k : KC R} (_ : Hd k) : Option R := match v, w with
 | .f n caps, .u => bo (E.it (rngK E a x (Fr.only live fr) H.length ps) n (.h H.length :: caps) (H ++ [some (.lp 0 none), some .df])) (.h fun p => rngE k fr g H.length p.2)
 | _, _ => none
end
end Go.Sim
end
section
namespace Go.Sim
section
variable {R : Type} {E : Env} {ρ : Rand → PV} {H : Heap} {id : Nat} {q : PV → Heap → Option R} {base : Nat}
theorem b_iaddrA {len : Nat} {k : Sim.K} {x i : Rand} : bo2 (evalOp E ρ H id (.iaddrA len k x i)) (.h q) = bo (asI (ρ i)) (.h fun (n : Int) => chk (0 ≤ n ∧ n < len) (.h (bo (moveA (n.toNat * k.size) (ρ x)) (.h fun v => q v H)))) := by
 simp only [evalOp]
 cases asI (ρ i) with
 | none => rfl
 | some n =>
  simp only [bo, inR, chk]
  by_cases h : 0 ≤ n ∧ n < len
  ·rw [if_pos h, if_pos h]; simp only
   cases moveA (n.toNat * k.size) (ρ x) <;> rfl
  ·rw [if_neg h, if_neg h]; rfl
theorem bo_asI {kk : IntKind} {n : Int} {y : Int → Option R} : bo (asI (.d (.i kk n))) (.h y) = y n := rfl
theorem loop_iter {σ : Type} {live : List Nat} {body : PC} {k : KC R} (st : σ → St) (f : Nat → σ) (n : Nat) {r : Option R}
  (hend : ∀ B, B = body → kC E base (st (f n)).fr (st (f n)).H (.h (body, lpK E base live B k)) = r)
  (hround : ∀ B, B = body → ∀ i, i < n → ∀ c, (∀ fr H, gc live base ⟨fr, H⟩ = st (f (i + 1)) → kC E base fr H (.h (.loop live B, k)) = c) → kC E base (st (f i)).fr (st (f i)).H (.h (body, lpK E base live B k)) = c)
  {fr : Fr} {H : Heap} (h0 : gc live base ⟨fr, H⟩ = st (f 0)) : kC E base fr H (.h (.loop live body, k)) = r := by
 rw [loop_rounds (List.replicate n ()) (fun i (_ : Unit) => st (f i)) (fun _ _ => True) (fun _ _ _ c => c ()) (fun _ => r) ?_ ?_ h0 trivial]
 ·have : ∀ (i : Nat) (l : List Unit), rounds (fun _ _ _ c => c ()) (fun _ => r) i () l = r := by
   intro i l
   induction l generalizing i with
   | nil => rfl
   | cons x l ih => exact ih (i + 1)
  exact this _ _
 ·intro B hB _ _
  simpa using hend B hB
 ·intro B hB i _ hi _ c hc
  exact hround B hB i (by simpa using hi) (c ()) fun fr H hg => hc () fr H trivial hg
end
end Go.Sim
end
section
namespace Go.Sim
theorem fits_r (o off len : Nat) (k : K) (t : Bool) : fits none (.r o k off len t) = true := rfl
section
variable {R : Type} {H : Heap}
end
end Go.Sim
end
section
namespace Go.Sim
section
variable {R : Type} {E : Env} {fr : Fr} {H : Heap} {bf : List Nat} {acc : List (List Nat × List Nat)} {id : Nat} {j : KO R}
end
end Go.Sim
end
section
namespace Go.Sim
section
variable {R : Type} {E : Env} {ρ : Rand → PV} {H : Heap} {id : Nat} {q : PV → Heap → Option R} {base : Nat}
theorem loop_meas {σ : Type} {live : List Nat} {body : PC} {k : KC R} (st : σ → St) (inv : σ → Prop) (μ : σ → Nat) {r : Option R}
  (hround : ∀ B, B = body → ∀ s, inv s → (∀ s', inv s' → μ s' < μ s → ∀ fr H, gc live base ⟨fr, H⟩ = st s' → kC E base fr H (.h (.loop live B, k)) = r) → kC E base (st s).fr (st s).H (.h (body, lpK E base live B k)) = r)
  (s : σ) (hs : inv s) {fr : Fr} {H : Heap} (h0 : gc live base ⟨fr, H⟩ = st s) : kC E base fr H (.h (.loop live body, k)) = r := by
 have key : ∀ (n : Nat) (s : σ), μ s < n → inv s → ∀ fr H, gc live base ⟨fr, H⟩ = st s → kC E base fr H (.h (.loop live body, k)) = r := by
  intro n
  induction n with
  | zero => intro s h; exact absurd h (Nat.not_lt_zero _)
  | succ n ih =>
   intro s hn hv fr H hg
   rw [kC_loop, hg]
   exact hround body rfl s hv fun s' hv' hm fr' H' hg' => ih s' (by omega) hv' fr' H' hg'
 exact key (μ s + 1) s (Nat.lt_succ_self _) hs fr H h0
end
end Go.Sim
end
section
open Go.Sim
attribute [local simp ↓] kC_skip kC_ret kC_exit kC_seq kC_block kC_reg kC_cond kC_condc sqK blK lpK kO_nil kO_O kO_E kO_OG kO_EG grd_b grd_t tst_b brn_true brn_false brn_not chk_T b_mov b_pick b_alloc b_box b_load b_store b_bin b_un b_eqv b_faddr b_field b_iaddr b_sl b_len b_app b_call b_call1 b_callR b_ext bo_some bo_none bo2_some bo2_none bo_iaddr bo_addS bo_quo bo_rem bo_bnd bo_bnd0 ld_q0 ld_qw ld_p subP0 subPw bo_moveP bo_moveQ bo_lenl bo_lens bo_lenr bo_add bo_sub bo_mul bo_eql bo_neq bo_lss bo_leq bo_gtr bo_geq bo_neg bo_not bo_eqS bo_neS grd_nb b_slS slSK_s extK_t ownL_l fin_ret fin_norm bo_res0 bo_rest bo_resc st_p stK_box b_callv callvK_f0 callvK_f1 mkf_b subPs ld_qs kC_regS0 kC_regS1 kC_regS2 kC_regS3 kC_regS4 kC_regS5 b_eqb eqbK_b b_agg0 b_bsl0 b_bsl1 app_l app_r appE_n appE_r bo_lenR b_mkif mkifK_d b_tas tasK_i b_mm2 bo_mm2
attribute [local simp] K_refl obj_0 obj_s get_c get_n drop_c drop_n set_c set_n fix_c fix_n rd IOp.adds nadds gh nid rgK rdS ghosts_c ghosts_n packed1 packed2 purT_b purT_i purT_s purT_a purT_lt purT_lf K_ss K_ns K_sn plains_n plains_c env_val env_ref purs_n purs_d put_0 put_s fits_i fits_b fits_s fits_l lt0_nat fits_a purT_t pur_dv frz_n purT_r purT_f
section
namespace Go.Sim
set_option maxRecDepth 10000
set_option maxHeartbeats 8000000
end Go.Sim
end
section
namespace Go.Sim
set_option maxRecDepth 10000
set_option maxHeartbeats 4000000
section
variable {Y : Nat → List PV → Heap → Option (PV × Heap)} {σ : Type} {HS : σ → Heap} {m o pj pa : Nat} {j : List AEntry} {t : Bool} {acc : Int} {P : σ → Prop} {f : σ → AEntry → ALeg → σ}
end
end Go.Sim
end
section
namespace Go.Sim
set_option maxRecDepth 10000
set_option maxHeartbeats 4000000
end Go.Sim
end
end
section
namespace Go.Sim
end Go.Sim
end
section
namespace Go.Sim
end Go.Sim
end
section
open Go.Sim
attribute [local simp ↓] kC_skip kC_ret kC_exit kC_seq kC_block kC_reg kC_cond kC_condc sqK blK lpK kO_nil kO_O kO_E kO_OG kO_EG grd_b grd_t tst_b brn_true brn_false brn_not chk_T b_mov b_pick b_alloc b_box b_load b_store b_bin b_un b_eqv b_faddr b_field b_iaddr b_sl b_len b_app b_call b_call1 b_callR b_ext bo_some bo_none bo2_some bo2_none bo_iaddr bo_addS bo_quo bo_rem bo_bnd bo_bnd0 ld_q0 ld_qw ld_p subP0 subPw bo_moveP bo_moveQ bo_lenl bo_lens bo_lenr bo_add bo_sub bo_mul bo_eql bo_neq bo_lss bo_leq bo_gtr bo_geq bo_neg bo_not bo_eqS bo_neS grd_nb b_slS slSK_s extK_t ownL_l fin_ret fin_norm bo_res0 bo_rest bo_resc st_p stK_box b_callv callvK_f0 callvK_f1 mkf_b subPs ld_qs kC_regS0 kC_regS1 kC_regS2 kC_regS3 kC_regS4 kC_regS5 b_eqb eqbK_b b_agg0 b_bsl0 b_bsl1 app_l app_r appE_n appE_r bo_lenR b_mkif mkifK_d b_tas tasK_i b_mm2 bo_mm2
attribute [local simp] K_refl obj_0 obj_s get_c get_n drop_c drop_n set_c set_n fix_c fix_n rd IOp.adds nadds gh nid rgK rdS ghosts_c ghosts_n packed1 packed2 purT_b purT_i purT_s purT_a purT_lt purT_lf K_ss K_ns K_sn plains_n plains_c env_val env_ref purs_n purs_d put_0 put_s fits_i fits_b fits_s fits_l lt0_nat fits_a purT_t pur_dv frz_n purT_r purT_f
section
namespace Go.Sim
set_option maxRecDepth 10000
set_option maxHeartbeats 4000000
end Go.Sim
end
section
namespace Go.Sim
set_option maxRecDepth 10000
set_option maxHeartbeats 4000000
end Go.Sim
end
section
namespace Go.Sim
set_option maxRecDepth 10000
set_option maxHeartbeats 4000000
end Go.Sim
end
section
namespace Go.Sim
set_option maxRecDepth 10000
set_option maxHeartbeats 4000000
end Go.Sim
end
section
namespace Go.Sim
set_option maxRecDepth 10000
set_option maxHeartbeats 4000000
section
variable {R : Type} {H : Heap} {id : Nat} {q : PV → Heap → Option R} {k : K} {b : Nat}
end
end Go.Sim
end
section
namespace Go.Sim
set_option maxRecDepth 10000
set_option maxHeartbeats 4000000
open Go.Lib (decDigits itoa)
end Go.Sim
end
section
namespace Go.Sim
set_option maxRecDepth 10000
set_option maxHeartbeats 8000000
theorem dcl_a (l : List DV) : DV.cells (.a l) = l := rfl
section
variable {R : Type} {E : Env} {fr : Fr} {H : Heap} {bf : List Nat} {acc : List (List Nat × List Nat)} {id : Nat} {j : KO R}
end
def AEntry.zero : AEntry := ⟨0, 0, 0, 0, 0, 0, [], [], ⟨[], true⟩, 0⟩
end Go.Sim
end
end
section
namespace Go.Sim
def tabV : PT :=
 (.bin 544 F544 (.bin 66 F66 (.bin 65 F65 (.bin 22 F22 .nil .nil) .nil) (.bin 72 F72 (.bin 71 F71 .nil .nil) .nil)) (.bin 1051 F1051 (.bin 1050 F1050 (.bin 1045 F1045 .nil .nil) .nil) (.bin 1060 F1060 .nil .nil)))
abbrev HV (T : Tab) : Prop := ∀ n F, tabV.get n = some F → T.F n = some F
end Go.Sim
end
section
open Go.Sim
attribute [local simp ↓] kC_skip kC_ret kC_exit kC_seq kC_block kC_reg kC_cond kC_condc sqK blK lpK kO_nil kO_O kO_E kO_OG kO_EG grd_b grd_t tst_b brn_true brn_false brn_not chk_T b_mov b_pick b_alloc b_box b_load b_store b_bin b_un b_eqv b_faddr b_field b_iaddr b_sl b_len b_app b_call b_call1 b_callR b_ext bo_some bo_none bo2_some bo2_none bo_iaddr bo_addS bo_quo bo_rem bo_bnd bo_bnd0 ld_q0 ld_qw ld_p subP0 subPw bo_moveP bo_moveQ bo_lenl bo_lens bo_lenr bo_add bo_sub bo_mul bo_eql bo_neq bo_lss bo_leq bo_gtr bo_geq bo_neg bo_not bo_eqS bo_neS grd_nb b_slS slSK_s extK_t ownL_l fin_ret fin_norm bo_res0 bo_rest bo_resc st_p stK_box b_callv callvK_f0 callvK_f1 mkf_b subPs ld_qs kC_regS0 kC_regS1 kC_regS2 kC_regS3 kC_regS4 kC_regS5 b_eqb eqbK_b b_agg0 b_bsl0 b_bsl1 app_l app_r appE_n appE_r bo_lenR b_mkif mkifK_d b_tas tasK_i b_mm2 bo_mm2
attribute [local simp] K_refl obj_0 obj_s get_c get_n drop_c drop_n set_c set_n fix_c fix_n rd IOp.adds nadds gh nid rgK rdS ghosts_c ghosts_n packed1 packed2 purT_b purT_i purT_s purT_a purT_lt purT_lf K_ss K_ns K_sn plains_n plains_c env_val env_ref purs_n purs_d put_0 put_s fits_i fits_b fits_s fits_l lt0_nat fits_a purT_t pur_dv frz_n purT_r purT_f
section
namespace Go.Sim
set_option maxRecDepth 10000
set_option maxHeartbeats 4000000
def vday (d : Int) : Bool := decide (0 ≤ d) && decide (d ≤ 73048)
def leap (y : Int) : Bool := (y.tmod 4 == 0) && ((y.tmod 100 != 0) || (y.tmod 400 == 0))
def lnI (y m : Int) : Int := if m = 2 then (if leap y = true then 29 else 28) else if m = 4 ∨ m = 6 ∨ m = 9 ∨ m = 11 then 30 else if m = 1 ∨ m = 3 ∨ m = 5 ∨ m = 7 ∨ m = 8 ∨ m = 10 ∨ m = 12 then 31 else 0
def bgI (y : Int) : Int := 365 * (y - 2000) + (y - 2000 + 3) / 4 - (if 2100 < y then 1 else 0)
def cmI (y : Int) : Nat → Int
  | 0 => 0
  | n + 1 => cmI y n + lnI y (1 + n)
theorem val22 (T : Tab) (hT : HV T) (d : Int) : T.val 22 [I d] = some (.d (.b (vday d)), false) := by
  rw [val_k T (hT 22 F22 rfl) rfl]
  simp [F22, Fr.ofArgs, vday]
  repeat' (refine brn_split (fun h => ?_) (fun h => ?_) <;> (try simp at h) <;> (try simp [h]))
  all_goals omega
theorem val544 (T : Tab) (hT : HV T) (d : Int) : T.val 544 [I d] = some (.d (.b (vday d)), false) := by
  rw [val_k T (hT 544 F544 rfl) rfl]
  simp [F544, Fr.ofArgs, vday]
  repeat' (refine brn_split (fun h => ?_) (fun h => ?_) <;> (try simp at h) <;> (try simp [h]))
  all_goals omega
theorem val66 (T : Tab) (hT : HV T) (y : Int) : T.val 66 [I y] = some (.d (.b (leap y)), false) := by
  rw [val_k T (hT 66 F66 rfl) rfl]
  simp [F66, Fr.ofArgs, leap]
  repeat' (refine brn_split (fun h => ?_) (fun h => ?_) <;> (try simp at h) <;> (try simp [h]))
  all_goals simp_all
theorem val1060 (T : Tab) (hT : HV T) (y : Int) : T.val 1060 [I y] = some (.d (.b (leap y)), false) := by
  rw [val_k T (hT 1060 F1060 rfl) rfl]
  simp [F1060, Fr.ofArgs, leap]
  repeat' (refine brn_split (fun h => ?_) (fun h => ?_) <;> (try simp at h) <;> (try simp [h]))
  all_goals simp_all
theorem val1050 (T : Tab) (hT : HV T) (y : Int) : T.val 1050 [I y] = some (.d (I (if leap y = true then 366 else 365)), false) := by
  rw [val_k T (hT 1050 F1050 rfl) rfl]
  have e := val1060 T hT y
  simp [F1050, Fr.ofArgs, e]
  repeat' (refine brn_split (fun h => ?_) (fun h => ?_) <;> (try simp at h) <;> (try simp [h]))
  all_goals simp_all
theorem val1051 (T : Tab) (hT : HV T) (y m : Int) : T.val 1051 [I y, I m] = some (.d (I (lnI y m)), false) := by
  rw [val_k T (hT 1051 F1051 rfl) rfl]
  have e := val1060 T hT y
  simp [F1051, Fr.ofArgs]
  repeat' (refine brn_split (fun h => ?_) (fun h => ?_) <;> (try simp at h) <;> (try simp [h, e]))
  all_goals simp_all [lnI]
theorem val71 (T : Tab) (hT : HV T) (y : Int) (h1 : 2000 ≤ y) (h2 : y ≤ 3000) : T.val 71 [I y] = some (.d (I (bgI y)), false) := by
  rw [val_k T (hT 71 F71 rfl) rfl]
  have w1 : IntKind.i64.wrap (y - 2000) = y - 2000 := wrI (by omega) (by omega)
  have w2 : IntKind.i64.wrap (y - 2000 + 3) = y - 2000 + 3 := wrI (by omega) (by omega)
  have q : (y - 2000 + 3).tdiv 4 = (y - 2000 + 3) / 4 := Int.tdiv_eq_ediv_of_nonneg (by omega)
  have w3 : IntKind.i64.wrap ((y - 2000 + 3) / 4) = (y - 2000 + 3) / 4 := wrI (by omega) (by omega)
  have w4 : IntKind.i64.wrap (365 * (y - 2000)) = 365 * (y - 2000) := wrI (by omega) (by omega)
  have w5 : IntKind.i64.wrap ((y - 2000 + 3) / 4 - 1) = (y - 2000 + 3) / 4 - 1 := wrI (by omega) (by omega)
  have w6 : IntKind.i64.wrap (365 * (y - 2000) + ((y - 2000 + 3) / 4 - 1)) = 365 * (y - 2000) + ((y - 2000 + 3) / 4 - 1) := wrI (by omega) (by omega)
  have w7 : IntKind.i64.wrap (365 * (y - 2000) + (y - 2000 + 3) / 4) = 365 * (y - 2000) + (y - 2000 + 3) / 4 := wrI (by omega) (by omega)
  simp [F71, Fr.ofArgs, w1, w2, q, w3]
  repeat' (refine brn_split (fun h => ?_) (fun h => ?_) <;> (try simp at h) <;> (try simp [w1, q, w3, w4, w5, w6, w7]))
  all_goals
    simp_all [bgI]
    try omega
theorem agg72 {R : Type} {y : List PV → Option R} : bo (aggA [PV.d (I 0), PV.d (I 0), PV.d (I 0), PV.d (I 0), PV.d (I 0), PV.d (I 0), PV.d (I 0), PV.d (I 0), PV.d (I 0), PV.d (I 0), PV.d (I 0), PV.d (I 0), PV.d (I 0)] [(0, K0, .d (I 0)), (1, K0, .d (I 31)), (2, K0, .d (I 28)), (3, K0, .d (I 31)), (4, K0, .d (I 30)), (5, K0, .d (I 31)), (6, K0, .d (I 30)), (7, K0, .d (I 31)), (8, K0, .d (I 31)), (9, K0, .d (I 30)), (10, K0, .d (I 31)), (11, K0, .d (I 30)), (12, K0, .d (I 31))]) (.h y) = y [.d (I 0), .d (I 31), .d (I 28), .d (I 31), .d (I 30), .d (I 31), .d (I 30), .d (I 31), .d (I 31), .d (I 30), .d (I 31), .d (I 30), .d (I 31)] := rfl
theorem mkA72 : mkA [.d (I 0), .d (I 31), .d (I 28), .d (I 31), .d (I 30), .d (I 31), .d (I 30), .d (I 31), .d (I 31), .d (I 30), .d (I 31), .d (I 30), .d (I 31)] = .d (.a [I 0, I 31, I 28, I 31, I 30, I 31, I 30, I 31, I 31, I 30, I 31, I 30, I 31]) := rfl
theorem val72 (T : Tab) (hT : HV T) (y m : Int) (h1 : 1 ≤ m) (h2 : m ≤ 12) : T.val 72 [I y, I m] = some (.d (I (lnI y m)), false) := by
  rw [val_k T (hT 72 F72 rfl) rfl]
  have e := val66 T hT y
  have g : ([I 0, I 31, I 28, I 31, I 30, I 31, I 30, I 31, I 31, I 30, I 31, I 30, I 31] : List DV)[m.toNat]? = some (I (if m = 2 then 28 else lnI y m)) := by
    have : m = 1 ∨ m = 2 ∨ m = 3 ∨ m = 4 ∨ m = 5 ∨ m = 6 ∨ m = 7 ∨ m = 8 ∨ m = 9 ∨ m = 10 ∨ m = 11 ∨ m = 12 := by omega
    rcases this with rfl | rfl | rfl | rfl | rfl | rfl | rfl | rfl | rfl | rfl | rfl | rfl <;> rfl
  have h3 : 0 ≤ m := by omega
  have h4 : m < 13 := by omega
  have h5 : m.toNat < 13 := by omega
  simp [F72, Fr.ofArgs, b_agg, agg72, mkA72]
  repeat' (refine brn_split (fun h => ?_) (fun h => ?_) <;> (try simp at h) <;> (try simp [h, e, b_iaddrA, bo_asI, h3, h4, h5, size_n, DV.cells]))
  all_goals simp_all [lnI]
theorem ex_step {g : Nat → Int} {x : Int} : ∀ (N : Nat), g 0 ≤ x → x < g N → ∃ n, n < N ∧ g n ≤ x ∧ x < g (n + 1)
  | 0, h0, h1 => absurd h1 (by omega)
  | N + 1, h0, h1 => by
    by_cases h : x < g N
    · obtain ⟨n, a, b, c⟩ := ex_step N h0 h
      exact ⟨n, by omega, b, c⟩
    · exact ⟨N, by omega, by omega, h1⟩
theorem leap_iff {y : Int} (h1 : 2000 ≤ y) (h2 : y < 2200) : leap y = true ↔ (y % 4 = 0 ∧ y ≠ 2100) := by
  unfold leap
  rw [Int.tmod_eq_emod_of_nonneg (by omega), Int.tmod_eq_emod_of_nonneg (by omega), Int.tmod_eq_emod_of_nonneg (by omega)]
  simp only [Bool.and_eq_true, Bool.or_eq_true, beq_iff_eq, bne_iff_ne, ne_eq]
  omega
theorem bg_succ {y : Int} (h1 : 2000 ≤ y) (h2 : y < 2200) : bgI (y + 1) = bgI y + (if leap y = true then 366 else 365) := by
  have h := leap_iff h1 h2
  unfold bgI
  by_cases g : leap y = true
  · rw [if_pos g]; have := h.1 g; split <;> split <;> omega
  · rw [if_neg g]
    have : ¬ (y % 4 = 0 ∧ y ≠ 2100) := fun q => g (h.2 q)
    split <;> split <;> omega
theorem cm12 (y : Int) : cmI y 12 = if leap y = true then 366 else 365 := by
  simp only [cmI, lnI]
  cases leap y <;> simp
def Civ (d : Int) (n m : Nat) : Prop := n < 200 ∧ bgI (2000 + n) ≤ d ∧ d < bgI (2000 + n + 1) ∧ m < 12 ∧ cmI (2000 + n) m ≤ d - bgI (2000 + n) ∧ d - bgI (2000 + n) < cmI (2000 + n) (m + 1)
theorem civ_ex {d : Int} (h : vday d = true) : ∃ n m, Civ d n m := by
  simp only [vday, Bool.and_eq_true, decide_eq_true_eq] at h
  obtain ⟨n, h1, h2, h3⟩ := ex_step (g := fun n => bgI (2000 + n)) (x := d) 200 (by simp [bgI]; omega) (by simp [bgI]; omega)
  have h3' : d < bgI (2000 + n + 1) := by simpa [Int.add_assoc] using h3
  have h4 := bg_succ (y := 2000 + n) (by omega) (by omega)
  obtain ⟨m, h5, h6, h7⟩ := ex_step (g := cmI (2000 + n)) (x := d - bgI (2000 + n)) 12 (by simp only [cmI]; omega) (by rw [cm12]; omega)
  exact ⟨n, m, h1, h2, h3', h5, h6, h7⟩
theorem lnI_pos {y : Int} {m : Int} (h1 : 1 ≤ m) (h2 : m ≤ 12) : 28 ≤ lnI y m ∧ lnI y m ≤ 31 := by
  unfold lnI
  (repeat' split) <;> omega
theorem cm_le (y : Int) : ∀ {a b : Nat}, a ≤ b → b ≤ 12 → cmI y a ≤ cmI y b
  | a, 0, h, _ => by obtain rfl : a = 0 := by omega
                     exact Int.le_refl _
  | a, b + 1, h, hb => by
    by_cases e : a = b + 1
    · subst e; exact Int.le_refl _
    · have := cm_le y (a := a) (b := b) (by omega) (by omega)
      have := lnI_pos (y := y) (m := 1 + b) (by omega) (by omega)
      simp only [cmI]; omega
theorem bg_le {a b : Nat} (h : a ≤ b) : bgI (2000 + a) ≤ bgI (2000 + b) := by
  unfold bgI
  split <;> split <;> omega
end Go.Sim
end
section
namespace Go.Sim
set_option maxRecDepth 10000
set_option maxHeartbeats 4000000
theorem bg0 : bgI 2000 = 0 := by decide
theorem civ_pos {d : Int} {n m : Nat} (h : Civ d n m) : 0 ≤ d ∧ d ≤ 73048 := by
 obtain ⟨h1, h2, h3, -⟩ := h
 have := bg_le (a := 0) (b := n) (by omega)
 have b := bg_le (a := n + 1) (b := 200) (by omega)
 have e : bgI (2000 + (200 : Nat)) = 73049 := by decide
 have e0 : bgI (2000 + (0 : Nat)) = 0 := by decide
 rw [show (2000 : Int) + ((n + 1 : Nat) : Int) = 2000 + n + 1 by omega] at b
 omega
theorem lp65_0 (T : Tab) (hT : HV T) (d : Int) (n m : Nat) (h : Civ d n m) {k : KC (PV × Bool)} {fr : Fr} {H : Heap} (h0 : gc [0, 5] 0 ⟨fr, H⟩ = ⟨[(5, .d (I (2000 + d / 366))), (0, .d (I d))], []⟩) :
  kC T.env 0 fr H (.h (.loop [0, 5] L65_0, k)) = k (.exit 0) [(17, .d (.b false)), (5, .d (I (2000 + n))), (0, .d (I d))] [] := by
 obtain ⟨hp, hp2⟩ := civ_pos h
 obtain ⟨h1, h2, h3, -⟩ := h
 obtain ⟨q, hq⟩ : ∃ q : Nat, (q : Int) = d / 366 := ⟨(d / 366).toNat, by omega⟩
 have hqd : bgI (2000 + q) ≤ d := by unfold bgI; split <;> omega
 have hqn : q ≤ n := by
  by_cases g : q ≤ n
  ·exact g
  ·have := bg_le (a := n + 1) (b := q) (by omega)
   rw [show (2000 : Int) + ((n + 1 : Nat) : Int) = 2000 + n + 1 by omega] at this
   omega
 refine loop_iter (fun y : Int => ⟨[(5, .d (I y)), (0, .d (I d))], []⟩) (fun i => 2000 + ((q + i : Nat) : Int)) (n - q) ?_ ?_ (by rw [h0, ← hq]; simp)
 ·intro B _
  simp only [Nat.add_sub_cancel' hqn]
  have w : IntKind.i64.wrap (2000 + (n : Int) + 1) = 2000 + n + 1 := wrI (by omega) (by omega)
  have e := val71 T hT (2000 + n + 1) (by omega) (by omega)
  have g : ¬ bgI (2000 + n + 1) ≤ d := by omega
  simp [L65_0, w, e, g]
 ·intro B _ i hi c hc
  obtain ⟨z, hz⟩ : ∃ z : Int, 2000 + ((q + i : Nat) : Int) = z := ⟨_, rfl⟩
  have hz' : 2000 + ((q + (i + 1) : Nat) : Int) = z + 1 := by omega
  have b := bg_le (a := q + (i + 1)) (b := n) (by omega)
  simp only [hz'] at hc b
  simp only [hz]
  have w : IntKind.i64.wrap (z + 1) = z + 1 := wrI (by omega) (by omega)
  have e := val71 T hT (z + 1) (by omega) (by omega)
  have g : bgI (z + 1) ≤ d := by omega
  simp [L65_0, w, e, g]
  exact hc _ _ (by simp [gc, Fr.keep, reach, frRefs, heapRefs, PV.refs, gcH, PV.ren, Obj.ren, Heap.obj, Fr.ren, gh])
theorem lp65_1 (T : Tab) (hT : HV T) (d : Int) (n m : Nat) (h : Civ d n m) {k : KC (PV × Bool)} {fr : Fr} {H : Heap} (h0 : gc [0, 5, 6] 0 ⟨fr, H⟩ = ⟨[(6, .d (I 1)), (5, .d (I (2000 + n))), (0, .d (I (d - bgI (2000 + n))))], []⟩) :
  kC T.env 0 fr H (.h (.loop [0, 5, 6] L65_1, k)) = k (.exit 2) [(28, .d (.b false)), (6, .d (I (1 + m))), (5, .d (I (2000 + n))), (0, .d (I (d - bgI (2000 + n) - cmI (2000 + n) m)))] [] := by
 obtain ⟨hp, hp2⟩ := civ_pos h
 obtain ⟨h1, h2, h3, h4, h5, h6⟩ := h
 generalize hy : (2000 : Int) + n = y at *
 have hb := bg_le (a := 0) (b := n) (by omega)
 rw [hy, show (2000 : Int) + ((0 : Nat) : Int) = 2000 by simp, bg0] at hb
 refine loop_iter (fun s : Int × Int => ⟨[(6, .d (I s.1)), (5, .d (I y)), (0, .d (I s.2))], []⟩) (fun i => (1 + (i : Int), d - bgI y - cmI y i)) m ?_ ?_ (by rw [h0]; simp [cmI])
 ·intro B _
  have e := val72 T hT y (1 + m) (by omega) (by omega)
  have g : ¬ lnI y (1 + m) ≤ d - bgI y - cmI y m := by simp only [cmI] at h6; omega
  simp [L65_1, e, g]
 ·intro B _ i hi c hc
  have e := val72 T hT y (1 + i) (by omega) (by omega)
  have l := cm_le y (a := i + 1) (b := m) (by omega) (by omega)
  have l0 := cm_le y (a := 0) (b := i + 1) (by omega) (by omega)
  simp only [cmI] at l l0
  have g : lnI y (1 + i) ≤ d - bgI y - cmI y i := by omega
  have w : IntKind.i64.wrap (1 + (i : Int) + 1) = 1 + (i : Int) + 1 := wrI (by omega) (by omega)
  have w2 : IntKind.i64.wrap (d - bgI y - cmI y i - lnI y (1 + i)) = d - bgI y - cmI y (i + 1) := by
   have := lnI_pos (y := y) (m := 1 + i) (by omega) (by omega)
   rw [wrI (by omega) (by omega)]; simp only [cmI]; omega
  simp [L65_1, w, e, g, w2]
  exact hc _ _ (by simp [gc, Fr.keep, reach, frRefs, heapRefs, PV.refs, gcH, PV.ren, Obj.ren, Heap.obj, Fr.ren, gh]; omega)
theorem val65 (T : Tab) (hT : HV T) (d : Int) (n m : Nat) (h : Civ d n m) : T.val 65 [I d] = some (.t [.d (I (2000 + n)), .d (I (1 + m)), .d (I (d - bgI (2000 + n) - cmI (2000 + n) m + 1))], false) := by
 rw [val_k T (hT 65 F65 rfl) rfl]
 obtain ⟨hp, hp2⟩ := civ_pos h
 have hv : vday d = true := by simp [vday, hp, hp2]
 have e := val22 T hT d
 have q : d.tdiv 366 = d / 366 := Int.tdiv_eq_ediv_of_nonneg hp
 have w1 : IntKind.i64.wrap (d / 366) = d / 366 := wrI (by omega) (by omega)
 have w2 : IntKind.i64.wrap (2000 + d / 366) = 2000 + d / 366 := wrI (by omega) (by omega)
 rw [hv] at e
 have lp := fun k fr H => @lp65_0 T hT d n m h k fr H
 have lp2 := fun k fr H => @lp65_1 T hT d n m h k fr H
 have e2 := val71 T hT (2000 + n) (by omega) (by have := h.1; omega)
 have hb := bg_le (a := 0) (b := n) (by omega)
 rw [show (2000 : Int) + ((0 : Nat) : Int) = 2000 by simp, bg0] at hb
 have h2 := h.2.1
 have w3 : IntKind.i64.wrap (d - bgI (2000 + n)) = d - bgI (2000 + n) := wrI (by omega) (by omega)
 have l0 := cm_le (2000 + n) (a := 0) (b := m) (by omega) (by have := h.2.2.2.1; omega)
 have h5 := h.2.2.2.2.1
 simp only [cmI] at l0
 have w4 : IntKind.i64.wrap (d - bgI (2000 + n) - cmI (2000 + n) m + 1) = d - bgI (2000 + n) - cmI (2000 + n) m + 1 := wrI (by omega) (by omega)
 simp [F65, Fr.ofArgs, e, q, w1, w2]
 refine (lp _ _ _ (by simp [gc, Fr.keep, reach, frRefs, heapRefs, PV.refs, gcH, PV.ren, Obj.ren, Heap.obj, Fr.ren, gh])).trans ?_
 simp [e2, w3]
 refine (lp2 _ _ _ (by simp [gc, Fr.keep, reach, frRefs, heapRefs, PV.refs, gcH, PV.ren, Obj.ren, Heap.obj, Fr.ren, gh])).trans ?_
 simp [w4]
 try rfl
theorem lp1045_0 (T : Tab) (hT : HV T) (d : Int) (n m : Nat) (h : Civ d n m) {k : KC (PV × Bool)} {fr : Fr} {H : Heap} (h0 : gc [0, 5, 6] 0 ⟨fr, H⟩ = ⟨[(6, .d (I 1)), (5, .d (I 2000)), (0, .d (I d))], []⟩) :
  kC T.env 0 fr H (.h (.loop [0, 5, 6] L1045_0, k)) = k (.exit 0) [(13, .d (.b false)), (6, .d (I 1)), (5, .d (I (2000 + n))), (0, .d (I (d - bgI (2000 + n))))] [] := by
 obtain ⟨hp, hp2⟩ := civ_pos h
 obtain ⟨h1, h2, h3, -⟩ := h
 refine loop_iter (fun s : Int × Int => ⟨[(6, .d (I 1)), (5, .d (I s.1)), (0, .d (I s.2))], []⟩) (fun i => (2000 + (i : Int), d - bgI (2000 + (i : Int)))) n ?_ ?_ (by rw [h0]; simp [bg0])
 ·intro B _
  have e := val1050 T hT (2000 + n)
  have s := bg_succ (y := 2000 + n) (by omega) (by omega)
  have g : ¬ (if leap (2000 + (n : Int)) = true then (366 : Int) else 365) ≤ d - bgI (2000 + n) := by omega
  simp [L1045_0, e, g]
 ·intro B _ i hi c hc
  have e := val1050 T hT (2000 + i)
  have s := bg_succ (y := 2000 + i) (by omega) (by omega)
  have b := bg_le (a := i + 1) (b := n) (by omega)
  have b0 := bg_le (a := 0) (b := i) (by omega)
  have z : (2000 : Int) + ((i + 1 : Nat) : Int) = 2000 + i + 1 := by omega
  rw [show (2000 : Int) + ((0 : Nat) : Int) = 2000 by simp, bg0] at b0
  rw [z] at b
  simp only [z] at hc
  generalize hy : (2000 : Int) + i = y at *
  have g : (if leap y = true then (366 : Int) else 365) ≤ d - bgI y := by omega
  have w : IntKind.i64.wrap (y + 1) = y + 1 := wrI (by omega) (by omega)
  have w2 : IntKind.i64.wrap (d - bgI y - if leap y = true then (366 : Int) else 365) = d - bgI (y + 1) := by
   rw [wrI (by split <;> omega) (by split <;> omega)]; omega
  simp [L1045_0, w, e, g, w2]
  exact hc _ _ (by simp [gc, Fr.keep, reach, frRefs, heapRefs, PV.refs, gcH, PV.ren, Obj.ren, Heap.obj, Fr.ren, gh])
theorem lp1045_1 (T : Tab) (hT : HV T) (d : Int) (n m : Nat) (h : Civ d n m) {k : KC (PV × Bool)} {fr : Fr} {H : Heap} (h0 : gc [0, 5, 6] 0 ⟨fr, H⟩ = ⟨[(6, .d (I 1)), (5, .d (I (2000 + n))), (0, .d (I (d - bgI (2000 + n))))], []⟩) :
  kC T.env 0 fr H (.h (.loop [0, 5, 6] L1045_1, k)) = k (.exit 2) [(24, .d (.b false)), (6, .d (I (1 + m))), (5, .d (I (2000 + n))), (0, .d (I (d - bgI (2000 + n) - cmI (2000 + n) m)))] [] := by
 obtain ⟨hp, hp2⟩ := civ_pos h
 obtain ⟨h1, h2, h3, h4, h5, h6⟩ := h
 generalize hy : (2000 : Int) + n = y at *
 have hb := bg_le (a := 0) (b := n) (by omega)
 rw [hy, show (2000 : Int) + ((0 : Nat) : Int) = 2000 by simp, bg0] at hb
 refine loop_iter (fun s : Int × Int => ⟨[(6, .d (I s.1)), (5, .d (I y)), (0, .d (I s.2))], []⟩) (fun i => (1 + (i : Int), d - bgI y - cmI y i)) m ?_ ?_ (by rw [h0]; simp [cmI])
 ·intro B _
  have e := val1051 T hT y (1 + m)
  have g : ¬ lnI y (1 + m) ≤ d - bgI y - cmI y m := by simp only [cmI] at h6; omega
  simp [L1045_1, e, g]
 ·intro B _ i hi c hc
  have e := val1051 T hT y (1 + i)
  have l := cm_le y (a := i + 1) (b := m) (by omega) (by omega)
  have l0 := cm_le y (a := 0) (b := i + 1) (by omega) (by omega)
  simp only [cmI] at l l0
  have g : lnI y (1 + i) ≤ d - bgI y - cmI y i := by omega
  have w : IntKind.i64.wrap (1 + (i : Int) + 1) = 1 + (i : Int) + 1 := wrI (by omega) (by omega)
  have w2 : IntKind.i64.wrap (d - bgI y - cmI y i - lnI y (1 + i)) = d - bgI y - cmI y (i + 1) := by
   have := lnI_pos (y := y) (m := 1 + i) (by omega) (by omega)
   rw [wrI (by omega) (by omega)]; simp only [cmI]; omega
  simp [L1045_1, w, e, g, w2]
  exact hc _ _ (by simp [gc, Fr.keep, reach, frRefs, heapRefs, PV.refs, gcH, PV.ren, Obj.ren, Heap.obj, Fr.ren, gh]; omega)
theorem val1045 (T : Tab) (hT : HV T) (d : Int) (n m : Nat) (h : Civ d n m) : T.val 1045 [I d] = some (.t [.d (I (2000 + n)), .d (I (1 + m)), .d (I (d - bgI (2000 + n) - cmI (2000 + n) m + 1))], false) := by
 rw [val_k T (hT 1045 F1045 rfl) rfl]
 obtain ⟨hp, hp2⟩ := civ_pos h
 have hv : vday d = true := by simp [vday, hp, hp2]
 have e := val544 T hT d
 rw [hv] at e
 have lp := fun k fr H => @lp1045_0 T hT d n m h k fr H
 have lp2 := fun k fr H => @lp1045_1 T hT d n m h k fr H
 have hb := bg_le (a := 0) (b := n) (by omega)
 rw [show (2000 : Int) + ((0 : Nat) : Int) = 2000 by simp, bg0] at hb
 have h2 := h.2.1
 have l0 := cm_le (2000 + n) (a := 0) (b := m) (by omega) (by have := h.2.2.2.1; omega)
 have h5 := h.2.2.2.2.1
 simp only [cmI] at l0
 have w4 : IntKind.i64.wrap (d - bgI (2000 + n) - cmI (2000 + n) m + 1) = d - bgI (2000 + n) - cmI (2000 + n) m + 1 := wrI (by omega) (by omega)
 simp [F1045, Fr.ofArgs, e]
 refine (lp _ _ _ (by simp [gc, Fr.keep, reach, frRefs, heapRefs, PV.refs, gcH, PV.ren, Obj.ren, Heap.obj, Fr.ren, gh])).trans ?_
 simp
 refine (lp2 _ _ _ (by simp [gc, Fr.keep, reach, frRefs, heapRefs, PV.refs, gcH, PV.ren, Obj.ren, Heap.obj, Fr.ren, gh])).trans ?_
 simp [w4]
 try rfl
end Go.Sim
end
section
namespace Go.Sim
set_option maxRecDepth 10000
set_option maxHeartbeats 4000000
theorem bg_lo {y : Int} (h : 2000 ≤ y) (h2 : y ≤ 2200) : 0 ≤ bgI y ∧ bgI y ≤ 73049 := by
 unfold bgI
 split <;> omega
theorem cm_lo (y : Int) : ∀ m : Nat, m ≤ 12 → 0 ≤ cmI y m ∧ cmI y m ≤ 31 * m
 | 0, _ => ⟨Int.le_refl _, Int.le_refl _⟩
 | m + 1, h => by
  have := cm_lo y m (by omega)
  have := lnI_pos (y := y) (m := 1 + m) (by omega) (by omega)
  simp only [cmI]; omega
end Go.Sim
end
section
namespace Go.Sim
set_option maxRecDepth 10000
set_option maxHeartbeats 4000000
noncomputable def men (d : Int) : Int := if h : vday d = true then bgI (2000 + (Classical.choose (civ_ex h) : Nat)) + cmI (2000 + (Classical.choose (civ_ex h) : Nat)) (Classical.choose (Classical.choose_spec (civ_ex h)) + 1) - 1 else -1
noncomputable def mon (d : Int) : Int := if h : vday d = true then 1 + (Classical.choose (Classical.choose_spec (civ_ex h)) : Nat) else 0
theorem men_civ {d : Int} (h : vday d = true) : ∃ n m, Civ d n m ∧ men d = bgI (2000 + n) + cmI (2000 + n) (m + 1) - 1 ∧ mon d = 1 + m := by
 refine ⟨_, _, Classical.choose_spec (Classical.choose_spec (civ_ex h)), ?_, ?_⟩
 ·simp only [men, h, dite_true]
 ·simp only [mon, h, dite_true]
theorem men_no {d : Int} (h : vday d = false) : men d = -1 := by simp [men, h]
theorem men_in {d : Int} (h : vday d = true) : d ≤ men d ∧ men d ≤ 73048 := by
 obtain ⟨n, m, ⟨h1, h2, h3, h4, h5, h6⟩, e, -⟩ := men_civ h
 have hb := bg_succ (y := 2000 + n) (by omega) (by omega)
 have hc := cm_le (2000 + n) (a := m + 1) (b := 12) (by omega) (by omega)
 rw [cm12] at hc
 have hd := bg_le (a := n + 1) (b := 200) (by omega)
 have h200 : bgI (2000 + ((200 : Nat) : Int)) = 73049 := by decide
 have he : bgI (2000 + ((n + 1 : Nat) : Int)) = bgI (2000 + n + 1) := by congr 1
 rw [h200, he] at hd
 omega
theorem val787 (T : Tab) (hT : HV T) (hS : HS T) (d : Int) : T.val 787 [I d] = some (.d (I (men d)), false) := by
 rw [val_k T (hS 787 F787 rfl) rfl]
 have e := val22 T hT d
 cases hv : vday d with
 | false =>
  rw [hv] at e
  rw [men_no hv]
  simp [F787, Fr.ofArgs, e]
 | true =>
  rw [hv] at e
  obtain ⟨n, m, hc, e2, -⟩ := men_civ hv
  have e3 := val65 T hT d n m hc
  have e4 := val72 T hT (2000 + n) (1 + m) (by omega) (by have := hc.2.2.2.1; omega)
  obtain ⟨hp, hp2⟩ := civ_pos hc
  obtain ⟨h1, h2, h3, h4, h5, h6⟩ := hc
  have hb := bg_lo (y := 2000 + n) (by omega) (by omega)
  have hk := cm_lo (2000 + n) m (by omega)
  have hl := lnI_pos (y := 2000 + n) (m := 1 + m) (by omega) (by omega)
  have hs : cmI (2000 + n) (m + 1) = cmI (2000 + n) m + lnI (2000 + n) (1 + m) := by rw [cmI, Int.add_comm 1 (m : Int)]
  have w : IntKind.i64.wrap (d - (d - bgI (2000 + n) - cmI (2000 + n) m + 1)) = bgI (2000 + n) + cmI (2000 + n) m - 1 := by rw [wrI (by omega) (by omega)]; omega
  have w2 : IntKind.i64.wrap (bgI (2000 + n) + cmI (2000 + n) m - 1 + lnI (2000 + n) (1 + m)) = men d := by rw [e2, wrI (by omega) (by omega)]; omega
  simp [F787, Fr.ofArgs, e, e3, e4, w, w2]
theorem val1118 (T : Tab) (hT : HV T) (hS : HS T) (d : Int) : T.val 1118 [I d] = some (.d (I (men d)), false) := by
 rw [val_k T (hS 1118 F1118 rfl) rfl]
 have e := val544 T hT d
 cases hv : vday d with
 | false =>
  rw [hv] at e
  rw [men_no hv]
  simp [F1118, Fr.ofArgs, e]
 | true =>
  rw [hv] at e
  obtain ⟨n, m, hc, e2, -⟩ := men_civ hv
  have e3 := val1045 T hT d n m hc
  have e4 := val1051 T hT (2000 + n) (1 + m)
  obtain ⟨hp, hp2⟩ := civ_pos hc
  obtain ⟨h1, h2, h3, h4, h5, h6⟩ := hc
  have hb := bg_lo (y := 2000 + n) (by omega) (by omega)
  have hk := cm_lo (2000 + n) m (by omega)
  have hl := lnI_pos (y := 2000 + n) (m := 1 + m) (by omega) (by omega)
  have hs : cmI (2000 + n) (m + 1) = cmI (2000 + n) m + lnI (2000 + n) (1 + m) := by rw [cmI, Int.add_comm 1 (m : Int)]
  have w : IntKind.i64.wrap (d + lnI (2000 + n) (1 + m)) = d + lnI (2000 + n) (1 + m) := wrI (by omega) (by omega)
  have w2 : IntKind.i64.wrap (d + lnI (2000 + n) (1 + m) - (d - bgI (2000 + n) - cmI (2000 + n) m + 1)) = men d := by rw [e2, wrI (by omega) (by omega)]; omega
  simp [F1118, Fr.ofArgs, e, e3, e4, w, w2]
noncomputable def endP (every d : Int) : Bool := decide (1 ≤ every) && (decide (every ≤ 12) && ((mon d).tmod every == 0))
theorem mon_in {d : Int} (h : vday d = true) : 1 ≤ mon d ∧ mon d ≤ 12 := by
 obtain ⟨n, m, ⟨h1, h2, h3, h4, h5, h6⟩, -, e⟩ := men_civ h
 omega
theorem val868 (T : Tab) (hT : HV T) (hS : HS T) (every d : Int) (hv : vday d = true) : T.val 868 [I every, I d] = some (.d (.b (endP every d)), false) := by
 rw [val_k T (hS 868 F868 rfl) rfl]
 obtain ⟨n, m, hc, -, e2⟩ := men_civ hv
 have e3 := val65 T hT d n m hc
 rw [← e2] at e3
 have hm := mon_in hv
 unfold endP
 by_cases h1 : 1 ≤ every
 ·by_cases h2 : every ≤ 12
  ·have h0 : every ≠ 0 := by omega
   have ht : -12 ≤ (mon d).tmod every ∧ (mon d).tmod every ≤ 12 := by
    rw [Int.tmod_eq_emod_of_nonneg (by omega)]
    have a := Int.emod_nonneg (mon d) h0
    have b := Int.emod_lt_of_pos (mon d) (b := every) (by omega)
    omega
   have w : IntKind.i64.wrap ((mon d).tmod every) = (mon d).tmod every := wrI (by omega) (by omega)
   simp [F868, Fr.ofArgs, e3, h1, h2, h0]
  ·simp [F868, Fr.ofArgs, e3, h1, h2]
 ·simp [F868, Fr.ofArgs, e3, h1]
noncomputable def mths (p : Int → Bool) (hi : Int) : Nat → Int → List Int → List Int
 | 0, _, out => out
 | k + 1, d, out => if 0 ≤ d ∧ d ≤ hi then mths p hi k (men (d + 1)) (if p d = true then out ++ [d] else out) else out
def muM (hi d : Int) : Nat := if 0 ≤ d then (hi + 1 - d).toNat else 0
theorem muM_lt {hi d : Int} (h0 : 0 ≤ d) (h1 : d ≤ hi) (_h2 : hi ≤ 73048) : muM hi (men (d + 1)) < muM hi d := by
 unfold muM
 rw [if_pos h0]
 cases hv : vday (d + 1) with
 | false => rw [men_no hv, if_neg (by omega)]; omega
 | true => have := men_in hv; split <;> omega
theorem mths_no (p : Int → Bool) (hi : Int) (k : Nat) (d : Int) (out : List Int) (h : ¬ (0 ≤ d ∧ d ≤ hi)) : mths p hi k d out = out := by
 cases k with
 | zero => rfl
 | succ k => rw [mths, if_neg h]
theorem mths_false (p : Int → Bool) (hi : Int) (h : ∀ d, p d = false) : ∀ (k : Nat) (d : Int) (out : List Int), mths p hi k d out = out
 | 0, _, _ => rfl
 | k + 1, d, out => by
  rw [mths, mths_false p hi h k, h d]
  split <;> rfl
theorem mths_len (p : Int → Bool) (hi : Int) : ∀ (k : Nat) (d : Int) (out : List Int), (mths p hi k d out).length ≤ out.length + k
 | 0, _, _ => by simp [mths]
 | k + 1, d, out => by
  rw [mths]
  split
  ·have a := mths_len p hi k (men (d + 1)) (if p d = true then out ++ [d] else out)
   have b : (if p d = true then out ++ [d] else out).length ≤ out.length + 1 := by split <;> simp
   omega
  ·omega
end Go.Sim
end
section
namespace Go.Sim
set_option maxRecDepth 10000
set_option maxHeartbeats 4000000
theorem ref1114_nil (T : Tab) (hT : HV T) (hS : HS T) (ev d : Int) (hv : vday d = true) : T.ref 1114 [.d (I d), .p 0 0 0, .p 1 0 0] [some (.box K0 (.d (I ev))), some (.box K0 (.d (.l K0 [] true)))] = some (.d (.b true), if endP ev d = true then [some (.box K0 (.d (I ev))), some (.box K0 (.r 2 K0 0 1 false)), some (.sl K0 0 [I d])] else [some (.box K0 (.d (I ev))), some (.box K0 (.d (.l K0 [] true)))]) := by
 rw [ref_k T (hS 1114 F1114 rfl) rfl]
 have e := val868 T hT hS ev d hv
 cases h : endP ev d with
 | false =>
  rw [h] at e
  simp [F1114, Fr.ofArgs, e, finR_ret, gcV, reach, heapRefs, PV.refs, gcH, orefs, Obj.refs, PV.ren, Obj.ren, Heap.obj, gh]
 | true =>
  rw [h] at e
  simp [F1114, Fr.ofArgs, e, finR_ret, fits_r, gcV, reach, heapRefs, PV.refs, place, gcH, orefs, Obj.refs, PV.ren, Obj.ren, Heap.obj, gh, List.idxOf?_cons]
theorem ref1114_cons (T : Tab) (hT : HV T) (hS : HS T) (ev d : Int) (hv : vday d = true) (l : List DV) (hl : l.length < 1000000) : T.ref 1114 [.d (I d), .p 0 0 0, .p 1 0 0] [some (.box K0 (.d (I ev))), some (.box K0 (.r 2 K0 0 l.length false)), some (.sl K0 0 l)] = some (.d (.b true), if endP ev d = true then [some (.box K0 (.d (I ev))), some (.box K0 (.r 3 K0 0 (l.length + 1) false)), none, some (.sl K0 0 (l ++ [I d]))] else [some (.box K0 (.d (I ev))), some (.box K0 (.r 2 K0 0 l.length false)), some (.sl K0 0 l)]) := by
 rw [ref_k T (hS 1114 F1114 rfl) rfl]
 have e := val868 T hT hS ev d hv
 have g1 : (l.length + 1) * 8 ≤ 140737488355328 := by omega
 have ht : l.take l.length = l := List.take_of_length_le (by simp)
 cases h : endP ev d with
 | false =>
  rw [h] at e
  simp [F1114, Fr.ofArgs, e, finR_ret, gcV, reach, heapRefs, PV.refs, place, gcH, orefs, Obj.refs, PV.ren, Obj.ren, Heap.obj, gh]
 | true =>
  rw [h] at e
  simp [F1114, Fr.ofArgs, e, finR_ret, fits_r, g1, ht, gcV, reach, heapRefs, PV.refs, place, gcH, orefs, Obj.refs, PV.ren, Obj.ren, Heap.obj, gh, List.idxOf?_cons]
end Go.Sim
end
section
namespace Go.Sim
set_option maxRecDepth 10000
set_option maxHeartbeats 4000000
def hM (ev : Int) : List Int → Heap
 | [] => [some (.box K0 (.d (I ev))), some (.box K0 (.d (.l K0 [] true)))]
 | x :: l => [some (.box K0 (.d (I ev))), some (.box K0 (.r 2 K0 0 (l.length + 1) false)), some (.sl K0 0 ((x :: l).map fun n => I n))]
def invM (p : Int → Bool) (hi : Int) (F : List Int) (s : Int × List Int) : Prop := ∃ n, muM hi s.1 ≤ n ∧ s.2.length + n ≤ 100000 ∧ mths p hi n s.1 s.2 = F
theorem invM_end {p : Int → Bool} {hi : Int} {F : List Int} {d : Int} {l : List Int} (h : invM p hi F (d, l)) (hd : ¬ (0 ≤ d ∧ d ≤ hi)) : l = F := by
 obtain ⟨n, -, -, e⟩ := h
 rw [← e]; exact (mths_no p hi n d l hd).symm
theorem invM_step {p : Int → Bool} {hi : Int} {F : List Int} {d : Int} {l : List Int} (h : invM p hi F (d, l)) (h0 : 0 ≤ d) (h1 : d ≤ hi) (h2 : hi ≤ 73048) : invM p hi F (men (d + 1), if p d = true then l ++ [d] else l) ∧ muM hi (men (d + 1)) < muM hi d := by
 have hm := muM_lt h0 h1 h2
 obtain ⟨n, a, b, e⟩ := h
 have a : muM hi d ≤ n := a
 have b : l.length + n ≤ 100000 := b
 have e : mths p hi n d l = F := e
 cases n with
 | zero => exact absurd a (by omega)
 | succ n =>
  rw [mths, if_pos ⟨h0, h1⟩] at e
  refine ⟨⟨n, (by show muM hi (men (d + 1)) ≤ n; omega), ?_, e⟩, hm⟩
  show (if p d = true then l ++ [d] else l).length + n ≤ 100000
  split <;> (try simp) <;> omega
theorem invM_len {p : Int → Bool} {hi : Int} {F : List Int} {d : Int} {l : List Int} (h : invM p hi F (d, l)) : l.length ≤ 100000 := by
 obtain ⟨n, -, b, -⟩ := h
 have b : l.length + n ≤ 100000 := b
 omega
theorem lp866 (T : Tab) (hT : HV T) (hS : HS T) (ev hi : Int) (F : List Int) (hhi : hi ≤ 73048) {k : KC (PV × Heap)} {fr : Fr} {H : Heap} {r : Option (PV × Heap)}
  (he : ∀ fr, ghosts fr = [] → k (.exit 0) fr (hM ev F) = r) (d0 : Int) (hd0 : invM (endP ev) hi F (d0, []))
  (h0 : gc [1, 2, 6] 2 ⟨fr, H⟩ = ⟨[(6, .d (I d0)), (2, .f 1114 [.p 0 0 0, .p 1 0 0]), (1, .d (I hi))], hM ev []⟩) :
  kC T.env 2 fr H (.h (.loop [1, 2, 6] L866_0, k)) = r := by
 refine loop_meas (fun s : Int × List Int => ⟨[(6, .d (I s.1)), (2, .f 1114 [.p 0 0 0, .p 1 0 0]), (1, .d (I hi))], hM ev s.2⟩) (invM (endP ev) hi F) (fun s => muM hi s.1) ?_ (d0, []) hd0 (by rw [h0])
 rintro B - ⟨d, l⟩ hI hx
 simp only at hx ⊢
 by_cases c0 : 0 ≤ d
 ·by_cases c1 : d ≤ hi
  ·have hv : vday d = true := by simp [vday, c0]; omega
   obtain ⟨hI', hm⟩ := invM_step hI c0 c1 hhi
   have hl := invM_len hI
   have hx' := hx _ hI' hm
   clear hx
   have e7 := val787 T hT hS (d + 1)
   have w : IntKind.i64.wrap (d + 1) = d + 1 := wrI (by omega) (by omega)
   cases l with
   | nil =>
    have e := ref1114_nil T hT hS ev d hv
    cases hp : endP ev d with
    | false =>
     simp only [hp, Bool.false_eq_true, if_false, hM] at e hx'
     simp only [hM]
     try simp only [List.map_cons] at e
     simp [L866_0, c0, c1, e, e7, w]
     exact hx' _ _ (by simp [gc, Fr.keep, reach, frRefs, heapRefs, PV.refs, PV.refsL, place, gcH, orefs, Obj.refs, PV.ren, PV.renL, Obj.ren, Heap.obj, Fr.ren, gh])
    | true =>
     simp only [hp, if_true, hM, List.nil_append] at e hx'
     simp only [hM]
     simp [L866_0, c0, c1, e, e7, w]
     exact hx' _ _ (by simp [gc, Fr.keep, reach, frRefs, heapRefs, PV.refs, PV.refsL, place, gcH, orefs, Obj.refs, PV.ren, PV.renL, Obj.ren, Heap.obj, Fr.ren, gh, List.idxOf?_cons])
   | cons x l =>
    have e := ref1114_cons T hT hS ev d hv ((x :: l).map fun n => I n) (by simp at hl ⊢; omega)
    simp only [List.length_map, List.length_cons] at e
    cases hp : endP ev d with
    | false =>
     simp only [hp, Bool.false_eq_true, if_false, hM] at e hx'
     simp only [hM]
     try simp only [List.map_cons] at e
     simp [L866_0, c0, c1, e, e7, w]
     exact hx' _ _ (by simp [gc, Fr.keep, reach, frRefs, heapRefs, PV.refs, PV.refsL, place, gcH, orefs, Obj.refs, PV.ren, PV.renL, Obj.ren, Heap.obj, Fr.ren, gh, List.idxOf?_cons])
    | true =>
     simp only [hp, if_true, hM, List.cons_append] at e hx'
     simp only [hM]
     simp only [List.map_cons] at e
     simp only [List.map_cons, List.length_append, List.length_cons, List.length_nil, List.map_append, List.map_nil] at hx'
     simp [L866_0, c0, c1, e, e7, w]
     exact hx' _ _ (by simp [gc, Fr.keep, reach, frRefs, heapRefs, PV.refs, PV.refsL, place, gcH, orefs, Obj.refs, PV.ren, PV.renL, Obj.ren, Heap.obj, Fr.ren, gh, List.idxOf?_cons])
  ·obtain rfl := invM_end hI (by omega)
   simp [L866_0, c0, c1]
   exact he _ rfl
 ·obtain rfl := invM_end hI (by omega)
  simp [L866_0, c0]
  exact he _ rfl
noncomputable def endsP (ev lo hi : Int) : List Int := mths (endP ev) hi 73050 (men lo) []
theorem endsP_inv (ev lo hi : Int) (hhi : hi ≤ 73048) : invM (endP ev) hi (endsP ev lo hi) (men lo, []) := by
 refine ⟨73050, ?_, by simp, rfl⟩
 show muM hi (men lo) ≤ 73050
 unfold muM
 split <;> omega
theorem packed0 : packed [] = PV.t [] := rfl
theorem ref866 (T : Tab) (hT : HV T) (hS : HS T) (ev lo hi : Int) (hhi : hi ≤ 73048) : T.ref 866 [.d (I lo), .d (I hi), .f 1114 [.p 0 0 0, .p 1 0 0]] [some (.box K0 (.d (I ev))), some (.box K0 (.d (.l K0 [] true)))] = some (.t [], hM ev (endsP ev lo hi)) := by
 rw [ref_k T (hS 866 F866 rfl) rfl]
 have e := val787 T hT hS lo
 have lp := fun k fr H r he h0 => @lp866 T hT hS ev hi (endsP ev lo hi) hhi k fr H r he (men lo) (endsP_inv ev lo hi hhi) h0
 simp [F866, Fr.ofArgs, e]
 refine lp _ _ _ _ (fun fr hg => ?_) (by simp [hM, gc, Fr.keep, reach, frRefs, heapRefs, PV.refs, PV.refsL, place, gcH, orefs, Obj.refs, PV.ren, PV.renL, Obj.ren, Heap.obj, Fr.ren, gh])
 cases endsP ev lo hi with
 | nil => simp [hM, finR_norm, hg, packed0, gcV, reach, heapRefs, PV.refs, PV.refsL, gcH, orefs, Obj.refs, PV.ren, PV.renL, Obj.ren, Heap.obj]
 | cons x l => simp [hM, finR_norm, hg, packed0, gcV, reach, heapRefs, PV.refs, PV.refsL, place, gcH, orefs, Obj.refs, PV.ren, PV.renL, Obj.ren, Heap.obj, List.idxOf?_cons]
theorem val1113 (T : Tab) (hT : HV T) (hS : HS T) (ev lo hi : Int) : T.val 1113 [I ev, I lo, I hi] = some (.d (.l K0 ((if vday lo = true ∧ vday hi = true then endsP ev lo hi else []).map fun n => I n) false), true) := by
 rw [val_k T (hS 1113 F1113 rfl) rfl]
 have e1 := val22 T hT lo
 have e2 := val22 T hT hi
 cases h1 : vday lo with
 | false =>
  rw [h1] at e1
  simp [F1113, Fr.ofArgs, e1]
 | true =>
  rw [h1] at e1
  cases h2 : vday hi with
  | false =>
   rw [h2] at e2
   simp [F1113, Fr.ofArgs, e1, e2]
   | true =>
   rw [h2] at e2
   have hhi : hi ≤ 73048 := by simp [vday] at h2; omega
   have e3 := ref866 T hT hS ev lo hi hhi
   have hL := mths_len (endP ev) hi 73050 (men lo) []
   rw [show mths (endP ev) hi 73050 (men lo) [] = endsP ev lo hi from rfl] at hL
   generalize endsP ev lo hi = F at *
   cases F with
   | nil =>
    simp only [hM] at e3
    simp [F1113, Fr.ofArgs, e1, e2, e3]
   | cons x l =>
    simp only [hM] at e3
    simp [F1113, Fr.ofArgs, e1, e2, e3]
    exact List.take_of_length_le (by simp)
end Go.Sim
end
section
namespace Go.Sim
set_option maxRecDepth 10000
set_option maxHeartbeats 4000000
theorem lp1117 (T : Tab) (hT : HV T) (hS : HS T) (ev hi : Int) (h1 : 1 ≤ ev) (h2 : ev ≤ 12) (F : List Int) (hhi : hi ≤ 73048) {k : KC (PV × Bool)} {fr : Fr} {H : Heap} {r : Option (PV × Bool)}
  (he : ∀ b d, k (.exit 0) [(38, .d (.b b)), (8, .d (I d)), (7, outV2 K0 (F.map fun n => I n)), (2, .d (I hi)), (0, .d (I ev))] (outO2 K0 (F.map fun n => I n)) = r) (d0 : Int) (hd0 : invM (endP ev) hi F (d0, []))
  (h0 : gc [0, 2, 7, 8] 0 ⟨fr, H⟩ = ⟨[(8, .d (I d0)), (7, .r 0 K0 0 0 true), (2, .d (I hi)), (0, .d (I ev))], [some (.sl K0 0 [])]⟩) :
  kC T.env 0 fr H (.h (.loop [0, 2, 7, 8] L1117_0, k)) = r := by
 refine loop_meas (fun s : Int × List Int => ⟨[(8, .d (I s.1)), (7, outV2 K0 (s.2.map fun n => I n)), (2, .d (I hi)), (0, .d (I ev))], outO2 K0 (s.2.map fun n => I n)⟩) (invM (endP ev) hi F) (fun s => muM hi s.1) ?_ (d0, []) hd0 (by rw [h0]; rfl)
 rintro B - ⟨d, l⟩ hI hx
 simp only at hx ⊢
 by_cases c0 : 0 ≤ d
 ·by_cases c1 : d ≤ hi
  ·have hv : vday d = true := by simp [vday, c0]; omega
   obtain ⟨hI', hm⟩ := invM_step hI c0 c1 hhi
   have hl := invM_len hI
   have hx' := hx _ hI' hm
   clear hx
   have e7 := val1118 T hT hS (d + 1)
   have w : IntKind.i64.wrap (d + 1) = d + 1 := wrI (by omega) (by omega)
   obtain ⟨n, m, hc, -, e2⟩ := men_civ hv
   have e3 := val1045 T hT d n m hc
   rw [← e2] at e3
   have hm := mon_in hv
   have hev : endP ev d = ((mon d).tmod ev == 0) := by simp [endP, h1, h2]
   have h0 : ev ≠ 0 := by omega
   have ht : -12 ≤ (mon d).tmod ev ∧ (mon d).tmod ev ≤ 12 := by
    rw [Int.tmod_eq_emod_of_nonneg (by omega)]
    have a := Int.emod_nonneg (mon d) h0
    have b := Int.emod_lt_of_pos (mon d) (b := ev) (by omega)
    omega
   have w2 : IntKind.i64.wrap ((mon d).tmod ev) = (mon d).tmod ev := wrI (by omega) (by omega)
   cases hp : endP ev d with
   | false =>
    have hp2 : ((mon d).tmod ev == 0) = false := by rw [hev] at hp; exact hp
    simp only [hp, Bool.false_eq_true, if_false] at hx'
    cases l with
    | nil =>
     simp only [outV2, outO2, List.map_nil] at hx' ⊢
     simp [L1117_0, c0, c1, e3, e7, w, h0, hp2]
     exact hx' _ _ (by simp [gc, Fr.keep, reach, frRefs, heapRefs, PV.refs, place, gcH, orefs, Obj.refs, PV.ren, Obj.ren, Heap.obj, Fr.ren, gh, List.idxOf?_cons])
    | cons x l =>
     simp only [outV2, outO2, List.map_cons] at hx' ⊢
     simp [L1117_0, c0, c1, e3, e7, w, h0, hp2]
     exact hx' _ _ (by simp [gc, Fr.keep, reach, frRefs, heapRefs, PV.refs, place, gcH, orefs, Obj.refs, PV.ren, Obj.ren, Heap.obj, Fr.ren, gh, List.idxOf?_cons])
   | true =>
    have hp2 : (mon d).tmod ev = 0 := by rw [hev] at hp; simpa using hp
    simp only [hp, if_true] at hx'
    cases l with
    | nil =>
     simp only [outV2, outO2, List.nil_append, List.map_cons, List.map_nil] at hx' ⊢
     simp [L1117_0, c0, c1, e3, e7, w, h0, hp2]
     exact hx' _ _ (by simp [gc, Fr.keep, reach, frRefs, heapRefs, PV.refs, place, gcH, orefs, Obj.refs, PV.ren, Obj.ren, Heap.obj, Fr.ren, gh, List.idxOf?_cons])
    | cons x l =>
     have hl' : l.length + 1 ≤ 100000 := hl
     have g1 : (l.length + 1 + 1) * 8 ≤ 140737488355328 := by omega
     have ht : (l.map fun n => I n).take l.length = l.map fun n => I n := List.take_of_length_le (by simp)
     simp only [outV2, outO2, List.cons_append, List.map_cons, List.map_nil, List.map_append, List.length_append, List.length_cons, List.length_nil, List.length_map] at hx' ⊢
     simp [L1117_0, c0, c1, e3, e7, w, h0, hp2, g1, ht]
     exact hx' _ _ (by simp [gc, Fr.keep, reach, frRefs, heapRefs, PV.refs, place, gcH, orefs, Obj.refs, PV.ren, Obj.ren, Heap.obj, Fr.ren, gh, List.idxOf?_cons])
  ·obtain rfl := invM_end hI (by omega)
   cases l with
   | nil => simp only [outV2, outO2, List.map_nil] at he ⊢; simp [L1117_0, c0, c1]; exact he _ _
   | cons x l => simp only [outV2, outO2, List.map_cons, List.length_map] at he ⊢; simp [L1117_0, c0, c1]; exact he _ _
 ·obtain rfl := invM_end hI (by omega)
  cases l with
  | nil => simp only [outV2, outO2, List.map_nil] at he ⊢; simp [L1117_0, c0]; exact he _ _
  | cons x l => simp only [outV2, outO2, List.map_cons, List.length_map] at he ⊢; simp [L1117_0, c0]; exact he _ _
theorem val1117 (T : Tab) (hT : HV T) (hS : HS T) (ev lo hi : Int) : T.val 1117 [I ev, I lo, I hi] = some (.d (.l K0 ((if vday lo = true ∧ vday hi = true then endsP ev lo hi else []).map fun n => I n) false), true) := by
 rw [val_k T (hS 1117 F1117 rfl) rfl]
 have e1 := val544 T hT lo
 have e2 := val544 T hT hi
 have e3 := val1118 T hT hS lo
 by_cases h1 : 1 ≤ ev
 ·have g1 : ¬ ev < 1 := by omega
  by_cases h2 : ev ≤ 12
  ·have g2 : ¬ 12 < ev := by omega
   cases h3 : vday lo with
   | false =>
    rw [h3] at e1
    simp [F1117, Fr.ofArgs, e1, g1, g2]
   | true =>
    rw [h3] at e1
    cases h4 : vday hi with
    | false =>
     rw [h4] at e2
     simp [F1117, Fr.ofArgs, e1, e2, g1, g2]
    | true =>
     rw [h4] at e2
     have hhi : hi ≤ 73048 := by simp [vday] at h4; omega
     have lp := fun k fr H r he h0 => @lp1117 T hT hS ev hi h1 h2 (endsP ev lo hi) hhi k fr H r he (men lo) (endsP_inv ev lo hi hhi) h0
     simp [F1117, Fr.ofArgs, e1, e2, e3, g1, g2]
     refine lp _ _ _ _ (fun b d => ?_) (by simp [gc, Fr.keep, reach, frRefs, heapRefs, PV.refs, place, gcH, orefs, Obj.refs, PV.ren, Obj.ren, Heap.obj, Fr.ren, gh, List.idxOf?_cons])
     cases endsP ev lo hi with
     | nil => simp only [outV2, outO2, List.map_nil]; simp
     | cons x l =>
      have ht : (l.map fun n => I n).take l.length = l.map fun n => I n := List.take_of_length_le (by simp)
      simp only [outV2, outO2, List.map_cons, List.length_map]; simp [ht]
  ·have g2 : 12 < ev := by omega
   have hF : endsP ev lo hi = [] := mths_false _ _ (fun d => by simp [endP, h2]) _ _ _
   simp [F1117, Fr.ofArgs, g1, g2, hF]
 ·have g1 : ev < 1 := by omega
  have hF : endsP ev lo hi = [] := mths_false _ _ (fun d => by simp [endP, h1]) _ _ _
  simp [F1117, Fr.ofArgs, g1, hF]
end Go.Sim
end
section
namespace Go.Sim
set_option maxRecDepth 10000
set_option maxHeartbeats 8000000
end Go.Sim
end
section
namespace Go.Sim
set_option maxRecDepth 10000
set_option maxHeartbeats 8000000
end Go.Sim
end
section
namespace Go.Sim
set_option maxRecDepth 10000
set_option maxHeartbeats 8000000
end Go.Sim
end
section
namespace Go.Sim
set_option maxRecDepth 10000
set_option maxHeartbeats 4000000
def APeriod.zero : APeriod := ⟨0, 0, 0, 0, 0, 0, 0, ⟨0, 0⟩, ⟨0, 0⟩⟩
def lastP (l : List APeriod) (id : Int) : Nat → APeriod × Bool
 | 0 => (.zero, false)
 | n + 1 => match l[n]? with
  | some p => if p.Account = id then (p, true) else lastP l id n
  | none => (.zero, false)
theorem lp26 (T : Tab) (l : List APeriod) (t : Bool) (id : Int) (hn : l.length ≤ 40) {k : KC (PV × Bool)} {fr : Fr} {H : Heap} {r : Option (PV × Bool)}
  (he : ∀ b n, lastP l id l.length = (.zero, false) → k (.exit 0) [(11, .d (.b b)), (6, .d (I n)), (4, .p 0 0 0), (1, .d (I id)), (0, .d (.l (K1 11) (l.map APeriod.dv) t))] [some (.box (K1 11) (.d APeriod.zero.dv))] = r)
  (hr : ∀ fr p, lastP l id l.length = (p, true) → fr.get 5 = .d (.b true) → fr.get 4 = .p 0 0 0 → ghosts fr = [] → k .ret fr [some (.box (K1 11) (.d p.dv))] = r)
  (h0 : gc [0, 1, 4, 6] 0 ⟨fr, H⟩ = ⟨[(6, .d (I ((l.length : Int) - 1))), (4, .p 0 0 0), (1, .d (I id)), (0, .d (.l (K1 11) (l.map APeriod.dv) t))], [some (.box (K1 11) (.d APeriod.zero.dv))]⟩) :
  kC T.env 0 fr H (.h (.loop [0, 1, 4, 6] L26_0, k)) = r := by
 refine loop_meas (fun n : Nat => ⟨[(6, .d (I ((n : Int) - 1))), (4, .p 0 0 0), (1, .d (I id)), (0, .d (.l (K1 11) (l.map APeriod.dv) t))], [some (.box (K1 11) (.d APeriod.zero.dv))]⟩) (fun n => n ≤ l.length ∧ lastP l id n = lastP l id l.length) (fun n => n) ?_ l.length ⟨Nat.le_refl _, rfl⟩ (by rw [h0])
 rintro B - n ⟨hle, heq⟩ hx
 simp only at hx ⊢
 cases n with
 | zero =>
  have e := (heq.symm : lastP l id l.length = _)
  simp [L26_0]
  exact he _ _ e
 | succ n =>
  have hlt : n < l.length := by omega
  have g1 : ((n + 1 : Nat) : Int) - 1 = n := by omega
  have g2 : (n : Int) < l.length := by omega
  have w : IntKind.i64.wrap ((n : Int) - 1) = (n : Int) - 1 := wrI (by omega) (by omega)
  have hx' := hx n
  clear hx
  rw [lastP, List.getElem?_eq_getElem hlt] at heq
  simp only at heq
  rw [g1]
  by_cases hq : l[n].Account = id
  ·rw [if_pos hq] at heq
   have hq' : (l[n].Account == id) = true := by simpa using hq
   simp [L26_0, hlt, g2, hq']
   exact hr _ _ heq.symm rfl rfl rfl
  ·rw [if_neg hq] at heq
   have hq' : (l[n].Account == id) = false := by simpa using hq
   simp [L26_0, hlt, g2, hq', w]
   exact hx' ⟨by omega, heq⟩ (Nat.lt_succ_self _) _ _ (by simp [gc, Fr.keep, reach, frRefs, heapRefs, PV.refs, place, gcH, orefs, Obj.refs, PV.ren, Obj.ren, Heap.obj, Fr.ren, gh, List.idxOf?_cons])
theorem val26 (T : Tab) (hS : HS T) (l : List APeriod) (t : Bool) (id : Int) (hn : l.length ≤ 40) : T.val 26 [.l (K1 11) (l.map APeriod.dv) t, I id] = some (.t [.d (lastP l id l.length).1.dv, .d (.b (lastP l id l.length).2)], false) := by
 rw [val_k T (hS 26 F26 rfl) rfl]
 have w : IntKind.i64.wrap ((l.length : Int) - 1) = (l.length : Int) - 1 := wrI (by omega) (by omega)
 simp [F26, Fr.ofArgs, w]
 refine lp26 T l t id hn (fun b n h => ?_) (fun fr p h h1 h2 h3 => ?_) (by simp [APeriod.zero, APeriod.dv, gc, Fr.keep, reach, frRefs, heapRefs, PV.refs, place, gcH, orefs, Obj.refs, PV.ren, Obj.ren, Heap.obj, Fr.ren, gh, List.idxOf?_cons])
 ·rw [h]; simp; try rfl
 ·rw [h]; simp [h1, h2, h3]; try rfl
theorem val1116 (T : Tab) (hS : HS T) (l : List APeriod) (t : Bool) (id : Int) (hn : l.length ≤ 40) : T.val 1116 [.l (K1 11) (l.map APeriod.dv) t, I id] = some (.t [.d (lastP l id l.length).1.dv, .d (.b (lastP l id l.length).2)], false) := by
 rw [← val26 T hS l t id hn, val_k T (hS 1116 F1116 rfl) rfl, val_k T (hS 26 F26 rfl) rfl]
 rfl
theorem lp1112_0 (T : Tab) (a : List Int) (s t : Bool) (hn : a.length ≤ 100000) {k : KC (PV × Bool)} {fr : Fr} {H : Heap}
  (h0 : gc [0, 1, 5] 0 ⟨fr, H⟩ = ⟨[(5, .d (I 0)), (1, .d (.l K0 (a.map fun n => I n) t)), (0, .d (.l K0 (a.map fun n => I n) s))], []⟩) :
  kC T.env 0 fr H (.h (.loop [0, 1, 5] L1112_0, k)) = k (.exit 0) [(14, .d (.b false)), (5, .d (I a.length)), (1, .d (.l K0 (a.map fun n => I n) t)), (0, .d (.l K0 (a.map fun n => I n) s))] [] := by
 rw [loop_rounds a (fun i (_ : Unit) => ⟨[(5, .d (I i)), (1, .d (.l K0 (a.map fun n => I n) t)), (0, .d (.l K0 (a.map fun n => I n) s))], []⟩) (fun _ _ => True) (fun _ s _ c => c ()) (fun _ => k (.exit 0) [(14, .d (.b false)), (5, .d (I a.length)), (1, .d (.l K0 (a.map fun n => I n) t)), (0, .d (.l K0 (a.map fun n => I n) s))] []) ?_ ?_ (b0 := ()) h0 trivial]
 ·exact rounds_fold (fun _ s _ => ()) _ _ (fun _ _ _ _ => rfl) 0 () a
 ·intro B _ s _
  simp [L1112_0]
 ·intro B _ i s hi _ c hc
  have h1 : (i : Int) < a.length := by omega
  have h3 := wr1 (i := i) (by omega)
  have h4 : (a[i] != a[i]) = false := by simp
  simp [L1112_0, ↓kC_regD, ↓kDq_nil, ↓kDq_O, ↓aftD_go, nfp_go, ↓d_mov, ↓d_load, ↓d_bin, ↓d_iaddr, accD, writeS, touchS, footD, storeD, chg, runs, pairsD, disj, PV.refs, IOp.okD, Nat.testBit, h1, hi, h3]
  exact hc _ _ _ trivial (by simp [gc, Fr.keep, reach, frRefs, heapRefs, PV.refs, gcH, PV.ren, Obj.ren, Heap.obj, Fr.ren, gh])
theorem val1112 (T : Tab) (hS : HS T) (a : List Int) (s t : Bool) (hn : a.length ≤ 100000) : T.val 1112 [.l K0 (a.map fun n => I n) s, .l K0 (a.map fun n => I n) t] = some (.d (.b true), false) := by
 rw [val_k T (hS 1112 F1112 rfl) rfl]
 have lp := fun k fr H h => @lp1112_0 T a s t hn k fr H h
 have g : ((a.length : Int) != a.length) = false := by simp
 simp [F1112, Fr.ofArgs]
 refine (lp _ _ _ (by simp [gc, Fr.keep, reach, frRefs, heapRefs, PV.refs, gcH, PV.ren, Obj.ren, Heap.obj, Fr.ren, gh])).trans ?_
 simp
theorem endsP_len (ev lo hi : Int) : (if vday lo = true ∧ vday hi = true then endsP ev lo hi else []).length ≤ 100000 := by
 split
 ·exact Nat.le_trans (mths_len _ _ _ _ _) (by simp)
 ·simp
theorem eqA_per (p : APeriod) : eqA [1, 1, 1, 1, 1, 1, 1, 1, 1, 1, 1] (.d p.dv) (.d p.dv) = some true := by
 simp [eqA, APeriod.dv, eqL, eqK]
theorem law1115 (T : Tab) (hT : HV T) (hS : HS T) (hl : T.val 1106 [] = some (.d (.b true), false)) (ev id lo hi : Int) (l : List APeriod) (t : Bool) : T.val 1115 [I ev, .a [I id, I lo, I hi], .l (K1 11) (l.map APeriod.dv) t] = some (.d (.b true), false) := by
 rw [val_k T (hS 1115 F1115 rfl) rfl]
 have e3 := val1113 T hT hS ev lo hi
 have e4 := val1117 T hT hS ev lo hi
 have hn2 := endsP_len ev lo hi
 generalize (if vday lo = true ∧ vday hi = true then endsP ev lo hi else []) = F at *
 have e5 := val1112 T hS F false false hn2
 by_cases hn : l.length ≤ 40
 ·have e1 := val26 T hS l t id hn
  have e2 := val1116 T hS l t id hn
  generalize lastP l id l.length = z at *
  have g1 : ¬ (40 : Int) < l.length := by omega
  simp [F1115, Fr.ofArgs, g1, dcl_a]
  repeat' (refine brn_split (fun h => ?_) (fun h => ?_) <;> (try simp at h) <;> (try simp [h, e1, e2, e3, e4, e5, hl, ↓kC_regD, ↓kDq_nil, ↓kDq_O, ↓kDq_OG, ↓aftD_go, nfp_go, ↓d_mov, ↓d_pick, ↓d_load, ↓d_eqv, ↓d_eqb, ↓d_faddr, ↓d_call0, accD, writeS, touchS, footD, storeD, chg, roOf, runs, pairsD, disj, PV.refs, IOp.okD, Nat.testBit, dcl_a, eqA_per]))
 ·have g1 : (40 : Int) < l.length := by omega
  simp [F1115, Fr.ofArgs, g1, hl]
end Go.Sim
end
end
