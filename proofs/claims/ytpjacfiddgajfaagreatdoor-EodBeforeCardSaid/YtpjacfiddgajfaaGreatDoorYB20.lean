/- Part 20 of the proof: CbKs, CbLp, CbKd, CbKr, CbGc, CbKe, CbKq, CbKf, CbKg, CbKh, CbKi, CbTy, CbSimI, CbTo. -/
import Derived.Test.YtpjacfiddgajfaaGreatDoorYB3
import Derived.Test.YtpjacfiddgajfaaGreatDoorYB2
import Derived.Laws.BitsLemmas
import Derived.Test.YtpjacfiddgajfaaGreatDoorYB1
import Derived.Test.YtpjacfiddgajfaaGreatDoorYB9
section
namespace Go.Sim
inductive Hd {α : Type} : α → Type where
 | h (x : α) : Hd x
section
variable {R α β : Type}
def bo (x : Option α) {k : α → Option R} (_ : Hd k) : Option R := match x with | some a => k a | none => none
def bo2 (x : Option (PV × Heap)) {k : PV → Heap → Option R} (_ : Hd k) : Option R := match x with | some (v, H) => k v H | none => none
def brn (b : Bool) {x y : Option R} (_ : Hd (x, y)) : Option R := match b with | true => x | false => y
def chk (p : Prop) [Decidable p] {x : Option R} (_ : Hd x) : Option R := if p then x else none
theorem brn_true (x y : Option R) : brn true (.h (x, y)) = x := rfl
theorem brn_false (x y : Option R) : brn false (.h (x, y)) = y := rfl
theorem brn_not (b : Bool) (x y : Option R) : brn (!b) (.h (x, y)) = brn b (.h (y, x)) := by cases b <;> rfl
theorem brn_split {b : Bool} {x y z : Option R} (h1 : b = true → x = z) (h2 : b = false → y = z) : brn b (.h (x, y)) = z := by cases b; exact h2 rfl; exact h1 rfl
theorem chk_go {p : Prop} [Decidable p] {x z : Option R} (h : p) (hx : x = z) : chk p (.h x) = z := (if_pos h).trans hx
theorem chk_T (x : Option R) : chk True (.h x) = x := rfl
theorem bo_some (a : α) (k : α → Option R) : bo (some a) (.h k) = k a := rfl
theorem bo_none (k : α → Option R) : bo none (.h k) = none := rfl
theorem bo2_some (v : PV) (H : Heap) (k : PV → Heap → Option R) : bo2 (some (v, H)) (.h k) = k v H := rfl
theorem bo2_none (k : PV → Heap → Option R) : bo2 none (.h k) = none := rfl
theorem bo2_opt (x : Option PV) (H : Heap) (k : PV → Heap → Option R) : bo2 (opt x H) (.h k) = bo x (.h fun v => k v H) := by cases x <;> rfl
theorem bo2_optD (x : Option DV) (H : Heap) (k : PV → Heap → Option R) : bo2 (optD x H) (.h k) = bo x (.h fun v => k (.d v) H) := by cases x <;> rfl
abbrev KC (R : Type) := Ex → Fr → Heap → Option R
abbrev KO (R : Type) := Fr → Heap → Option R
noncomputable def kC (E : Env) (base : Nat) (fr : Fr) (H : Heap) {c : PC} {k : KC R} (_ : Hd (c, k)) : Option R := match evalC E lpI base c ⟨fr, H⟩ with | some (e, s) => k e s.fr s.H | none => none
def kO (E : Env) (id : Nat) (fr : Fr) (H : Heap) {ops : List IOper} {k : KO R} (_ : Hd (ops, k)) : Option R := match evalOps E ops id ⟨fr, H⟩ with | some s => k s.fr s.H | none => none
def kD (E : Env) (id : Nat) (fr : Fr) (H : Heap) (bf : List Nat) (acc : List (List Nat × List Nat)) {ops : List IOper} {k : KO R} (_ : Hd (ops, k)) : Option R := match evalOpsD E ops bf acc id ⟨fr, H⟩ with | some s => k s.fr s.H | none => none
variable {E : Env} {base : Nat} {fr : Fr} {H : Heap} {k : KC R} {j : KO R}
theorem kC_skip : kC E base fr H (.h (.skip, k)) = k .norm fr H := rfl
theorem kC_ret : kC E base fr H (.h (.ret, k)) = k .ret fr H := rfl
theorem kC_exit {id : Nat} : kC E base fr H (.h (.exit id, k)) = k (.exit id) fr H := rfl
noncomputable def sqK (E : Env) (base : Nat) (b : PC) (k : KC R) : KC R
 | .norm, fr, H => kC E base fr H (.h (b, k))
 | .exit id, fr, H => k (.exit id) fr H
 | .ret, fr, H => k .ret fr H
def blK (id : Nat) (k : KC R) : KC R
 | .exit i, fr, H => if i = id then k .norm fr H else k (.exit i) fr H
 | .norm, fr, H => k .norm fr H
 | .ret, fr, H => k .ret fr H
def rgK (kill : List Nat) (k : KC R) : KO R := fun fr H => k .norm (fr.drop kill) H
theorem kC_seq {a b : PC} : kC E base fr H (.h (.seq a b, k)) = kC E base fr H (.h (a, sqK E base b k)) := by
 simp only [kC, evalC]
 cases evalC E lpI base a ⟨fr, H⟩ with
 | none => rfl
 | some x => obtain ⟨e, s⟩ := x; cases e <;> rfl
theorem kC_block {id : Nat} {x : PC} : kC E base fr H (.h (.block id x, k)) = kC E base fr H (.h (x, blK id k)) := by
 simp only [kC, evalC]
 cases evalC E lpI base x ⟨fr, H⟩ with
 | none => rfl
 | some y =>
  obtain ⟨e, s⟩ := y
  cases e with
  | norm => rfl
  | ret => rfl
  | exit i =>
   by_cases h : i = id
   ·subst h; simp [blK]
   ·simp [blK, h]
theorem kC_reg {ops : List IOper} {kill : List Nat} : kC E base fr H (.h (.reg ops kill, k)) = kO E H.length fr (H ++ List.replicate (nadds ops) none) (.h (ops, rgK kill k)) := by
 simp only [kC, evalC, evalReg, kO]
 cases evalOps E ops H.length ⟨fr, H ++ List.replicate (nadds ops) none⟩ <;> rfl
theorem kC_regD {ops : List IOper} {bf kill : List Nat} : kC E base fr H (.h (.regD ops bf kill, k)) = kD E H.length fr (H ++ List.replicate (nadds ops) none) bf [] (.h (ops, rgK kill k)) := by
 simp only [kC, evalC, evalRegD, kD]
 cases evalOpsD E ops bf [] H.length ⟨fr, H ++ List.replicate (nadds ops) none⟩ <;> rfl
def Fr.fix : Fr → Nat → Bool → Fr
 | [], _, _ => []
 | (j, v) :: r, t, b => if j = t then (j, .d (.b b)) :: r else (j, v) :: Fr.fix r t b
theorem fix_eq : ∀ {fr : Fr} {t : Nat} {b : Bool}, fr.get t = .d (.b b) → fr.fix t b = fr
 | [], t, b, h => rfl
 | (j, x) :: r, t, b, h => by
  simp only [Fr.get] at h
  simp only [Fr.fix]
  split
  ·rename_i hj; rw [if_pos hj] at h; rw [h]
  ·rename_i hj; rw [if_neg hj] at h; rw [fix_eq h]
def tst (v : PV) {x y : Option R} (_ : Hd (x, y)) : Option R := match v with | .d (.b true) => x | .d (.b false) => y | _ => none
theorem tst_b (b : Bool) (x y : Option R) : tst (.d (.b b)) (.h (x, y)) = brn b (.h (x, y)) := by cases b <;> rfl
theorem kC_cond {t : Nat} {x y : PC} : kC E base fr H (.h (.cond (.t t) x y, k)) = tst (fr.get t) (.h (kC E base (fr.fix t true) H (.h (x, k)), kC E base (fr.fix t false) H (.h (y, k)))) := by
 simp only [kC, evalC, rd]
 cases h : fr.get t with
 | d v =>
  cases v with
  | b b => cases b with
   | true => simp only [tst]; rw [fix_eq h]
   | false => simp only [tst]; rw [fix_eq h]
  | _ => rfl
 | _ => rfl
theorem kC_condc {b : Bool} {x y : PC} : kC E base fr H (.h (.cond (.c (.b b)) x y, k)) = brn b (.h (kC E base fr H (.h (x, k)), kC E base fr H (.h (y, k)))) := by
 cases b <;> rfl
theorem kO_nil {id : Nat} : kO E id fr H (.h ([], j)) = j fr H := rfl
def nid (op : IOp) (id : Nat) : Nat := if op.adds = true then id + 1 else id
theorem kO_O {d : Nat} {op : IOp} {r : List IOper} {id : Nat} : kO E id fr H (.h (⟨some d, op, none⟩ :: r, j)) = bo2 (evalOp E (rd E fr) H id op) (.h fun v H => kO E (nid op id) (fr.set d v) H (.h (r, j))) := by
 simp only [kO, evalOps, bo2]
 cases evalOp E (rd E fr) H id op <;> rfl
theorem kO_E {op : IOp} {r : List IOper} {id : Nat} : kO E id fr H (.h (⟨none, op, none⟩ :: r, j)) = bo2 (evalOp E (rd E fr) H id op) (.h fun _ H => kO E (nid op id) fr H (.h (r, j))) := by
 simp only [kO, evalOps, bo2]
 cases evalOp E (rd E fr) H id op <;> rfl
def grd (v : PV) (w : Bool) {x y z : Option R} (_ : Hd (x, y, z)) : Option R := match v with | .d (.b b) => if b = w then x else y | .t [] => z | _ => none
theorem grd_b (b : Bool) (x y z : Option R) : grd (.d (.b b)) true (.h (x, y, z)) = brn b (.h (x, y)) := by cases b <;> rfl
theorem grd_nb (b : Bool) (x y z : Option R) : grd (.d (.b b)) false (.h (x, y, z)) = brn b (.h (y, x)) := by cases b <;> rfl
theorem grd_t (w : Bool) (x y z : Option R) : grd (.t []) w (.h (x, y, z)) = z := rfl
theorem kO_OG {d t : Nat} {w : Bool} {op : IOp} {r : List IOper} {id : Nat} : kO E id fr H (.h (⟨some d, op, some (t, w)⟩ :: r, j)) =
  grd (fr.get t) w (.h (bo2 (evalOp E (rd E (fr.fix t w)) H id op) (.h fun v H => kO E (nid op id) ((fr.fix t w).set d v) H (.h (r, j))), kO E (nid op id) ((fr.fix t (!w)).set d (.t [])) H (.h (r, j)), kO E (nid op id) (fr.set d (.t [])) H (.h (r, j)))) := by
 simp only [kO, evalOps]
 cases h : fr.get t with
 | d v =>
  cases v with
  | b b =>
   by_cases hb : b = w
   ·subst hb
    rw [fix_eq h]
    simp only [grd, beq_self_eq_true, if_true]
    cases evalOp E (rd E fr) H id op <;> rfl
   ·have e : (b == w) = false := by simpa using hb
    have e2 : b = !w := by cases b <;> cases w <;> simp_all
    rw [e2] at h
    simp only [grd, e, if_neg hb, Bool.false_eq_true, if_false]
    rw [fix_eq h]; rfl
  | _ => rfl
 | t vs => cases vs <;> rfl
 | _ => rfl
theorem kO_EG {t : Nat} {w : Bool} {op : IOp} {r : List IOper} {id : Nat} : kO E id fr H (.h (⟨none, op, some (t, w)⟩ :: r, j)) =
  grd (fr.get t) w (.h (bo2 (evalOp E (rd E (fr.fix t w)) H id op) (.h fun _ H => kO E (nid op id) (fr.fix t w) H (.h (r, j))), kO E (nid op id) (fr.fix t (!w)) H (.h (r, j)), kO E (nid op id) fr H (.h (r, j)))) := by
 simp only [kO, evalOps]
 cases h : fr.get t with
 | d v =>
  cases v with
  | b b =>
   by_cases hb : b = w
   ·subst hb
    rw [fix_eq h]
    simp only [grd, beq_self_eq_true, if_true]
    cases evalOp E (rd E fr) H id op <;> rfl
   ·have e : (b == w) = false := by simpa using hb
    have e2 : b = !w := by cases b <;> cases w <;> simp_all
    rw [e2] at h
    simp only [grd, e, if_neg hb, Bool.false_eq_true, if_false]
    rw [fix_eq h]; rfl
  | _ => rfl
 | t vs => cases vs <;> rfl
 | _ => rfl
variable {ρ : Rand → PV} {id : Nat} {q : PV → Heap → Option R}
theorem b_mov {x : Rand} : bo2 (evalOp E ρ H id (.mov x)) (.h q) = q (ρ x) H := rfl
theorem b_pick {c x y : Rand} : bo2 (evalOp E ρ H id (.pick c x y)) (.h q) = tst (ρ c) (.h (q (ρ x) H, q (ρ y) H)) := by
 simp only [evalOp]
 cases ρ c with
 | d v =>
  cases v with
  | b b => cases b <;> rfl
  | _ => rfl
 | _ => rfl
theorem b_alloc {K : Sim.K} {z : DV} : bo2 (evalOp E ρ H id (.alloc K z)) (.h q) = q (.p id 0 0) (H.put id (some (.box K (.d z)))) := rfl
theorem b_box {K : Sim.K} {x : Rand} : bo2 (evalOp E ρ H id (.box K x)) (.h q) = chk (fits K (ρ x) = true) (.h (q (.p id 0 0) (H.put id (some (.box K (ρ x)))))) := by
 simp only [evalOp, chk]; split <;> rfl
theorem b_load {K : Sim.K} {x : Rand} : bo2 (evalOp E ρ H id (.load K x)) (.h q) = bo (loadA H K (ρ x)) (.h fun v => q v H) := by
 simp only [evalOp]; exact bo2_opt _ _ _
theorem b_store {K : Sim.K} {x y : Rand} : bo2 (evalOp E ρ H id (.store K x y)) (.h q) = bo (storeA H K (ρ x) (ρ y)) (.h fun H' => q .u H') := by
 simp only [evalOp]; cases storeA H K (ρ x) (ρ y) <;> rfl
theorem b_bin {op : BinOp} {x y : Rand} : bo2 (evalOp E ρ H id (.bin op x y)) (.h q) = bo (binA op (ρ x) (ρ y)) (.h fun v => q (.d v) H) := by
 simp only [evalOp]; exact bo2_optD _ _ _
theorem b_un {op : UnOp} {x : Rand} : bo2 (evalOp E ρ H id (.un op x)) (.h q) = bo (unA op (ρ x)) (.h fun v => q (.d v) H) := by
 simp only [evalOp]; exact bo2_optD _ _ _
theorem b_eqv {neg : Bool} {n : List Nat} {x y : Rand} : bo2 (evalOp E ρ H id (.eqv neg n x y)) (.h q) = bo (eqA n (ρ x) (ρ y)) (.h fun e => q (.d (.b (if neg = true then !e else e))) H) := by
 simp only [evalOp]; cases eqA n (ρ x) (ρ y) <;> rfl
theorem b_faddr {o : Nat} {x : Rand} : bo2 (evalOp E ρ H id (.faddr o x)) (.h q) = bo (moveA o (ρ x)) (.h fun v => q v H) := by
 simp only [evalOp]; exact bo2_opt _ _ _
theorem b_field {o : Nat} {K : Sim.K} {x : Rand} : bo2 (evalOp E ρ H id (.field o K x)) (.h q) = bo (fieldA o K (ρ x)) (.h fun v => q v H) := by
 simp only [evalOp]; exact bo2_opt _ _ _
theorem b_iaddr {K : Sim.K} {x i : Rand} : bo2 (evalOp E ρ H id (.iaddr K x i)) (.h q) = bo (iaddr H K (ρ x) (ρ i)) (.h fun v => q v H) := by
 simp only [evalOp]; exact bo2_opt _ _ _
theorem b_sl {K : Sim.K} {x : Rand} {lo hi mx : Option Rand} : bo2 (evalOp E ρ H id (.sl K x lo hi mx)) (.h q) = bo (slA H K (ρ x) (lo.map ρ) (hi.map ρ) (mx.map ρ)) (.h fun v => q v H) := by
 simp only [evalOp]; exact bo2_opt _ _ _
theorem b_len {s : Bool} {x : Rand} : bo2 (evalOp E ρ H id (.len s x)) (.h q) = bo (lenA H s (ρ x)) (.h fun n : Nat => q (.d (.i .i64 (n : Int))) H) := by
 simp only [evalOp]; cases lenA H s (ρ x) <;> rfl
theorem b_app {K : Sim.K} {b : Nat} {x y : Rand} : bo2 (evalOp E ρ H id (.app K b x y)) (.h q) = bo2 (appA H id K b (ρ x) (ρ y)) (.h q) := rfl
theorem b_call {f : Nat} {as0 : List Rand} : bo2 (evalOp E ρ H id (.call 0 f as0)) (.h q) = bo (purs H (as0.map ρ)) (.h fun d => bo (E.val f d.1) (.h fun r => q r.1 (if (d.2.isEmpty || r.1.scal) = true then H else frz H d.2))) := by
 simp only [evalOp]
 cases purs H (as0.map ρ) with
 | none => rfl
 | some d =>
  simp only [bo]
  cases E.val f d.1 with
  | none => rfl
  | some r => rfl
def ownL (x : PV × Bool) {q : K → List DV → Option R} (_ : Hd q) : Option R := match x with | (.d (.l k es _), true) => q k es | _ => none
theorem ownL_l {k : K} {es : List DV} {t : Bool} {q : K → List DV → Option R} : ownL (.d (.l k es t), true) (.h q) = q k es := rfl
theorem b_call1 {f : Nat} {as0 : List Rand} : bo2 (evalOp E ρ H id (.call 1 f as0)) (.h q) = bo (purs H (as0.map ρ)) (.h fun d => bo (E.val f d.1) (.h fun r => ownL r (.h fun k es => q (.r id k 0 es.length false) ((if d.2.isEmpty = true then H else frz H d.2).put id (some (.sl k 0 es)))))) := by
 simp only [evalOp]
 cases purs H (as0.map ρ) with
 | none => rfl
 | some d =>
  simp only [bo]
  cases E.val f d.1 with
  | none => rfl
  | some r =>
   obtain ⟨r, o⟩ := r
   cases r with
   | d v => cases v with
    | l k es t => cases o <;> rfl
    | _ => rfl
   | _ => rfl
theorem b_callR {m f : Nat} {as0 : List Rand} : bo2 (evalOp E ρ H id (.call (m + 2) f as0)) (.h q) = bo2 (E.ref f (as0.map ρ) H) (.h q) := rfl
def extK (x : PV) (i : Nat) {q : PV → Option R} (_ : Hd q) : Option R := match x with | .t vs => bo vs[i]? (.h q) | _ => none
theorem extK_t {vs : List PV} {i : Nat} {q : PV → Option R} : extK (.t vs) i (.h q) = bo vs[i]? (.h q) := rfl
theorem b_ext {x : Rand} {i : Nat} : bo2 (evalOp E ρ H id (.ext x i)) (.h q) = extK (ρ x) i (.h fun v => q v H) := by
 simp only [evalOp, extK]
 cases ρ x with
 | t vs => exact bo2_opt _ _ _
 | _ => rfl
def slSK (x : PV) (lo hi : Option PV) {q : PV → Option R} (_ : Hd q) : Option R := match x with | .d (.s s) => bo (bnd s.length s.length hi) (.h fun h => bo (bnd 0 h lo) (.h fun l => q (.d (.s ((s.take h).drop l))))) | _ => none
theorem slSK_s {s : List UInt8} {lo hi : Option PV} {q : PV → Option R} : slSK (.d (.s s)) lo hi (.h q) = bo (bnd s.length s.length hi) (.h fun h => bo (bnd 0 h lo) (.h fun l => q (.d (.s ((s.take h).drop l))))) := rfl
theorem b_slS {x : Rand} {lo hi : Option Rand} : bo2 (evalOp E ρ H id (.slS x lo hi)) (.h q) = slSK (ρ x) (lo.map ρ) (hi.map ρ) (.h fun v => q v H) := by
 simp only [evalOp, slSK]
 cases ρ x with
 | d v => cases v with
  | s s =>
   simp only
   cases bnd s.length s.length (hi.map ρ) with
   | none => rfl
   | some h => simp only [bo]; cases bnd 0 h (lo.map ρ) <;> rfl
  | _ => rfl
 | _ => rfl
variable {kk : IntKind}
theorem bo_bnd {d top : Nat} {n : Int} {y : Nat → Option R} : bo (bnd d top (some (.d (.i kk n)))) (.h y) = chk (0 ≤ n ∧ n ≤ top) (.h (y n.toNat)) := by
 simp only [bnd, asI, chk]; split <;> rfl
theorem bo_bnd0 {d top : Nat} {y : Nat → Option R} : bo (bnd d top none) (.h y) = y d := rfl
theorem bo_iaddr {K K' : Sim.K} {es : List DV} {t : Bool} {n : Int} {y : PV → Option R} (hK : K.eq K' = true) : bo (iaddr H K (.d (.l K' es t)) (.d (.i kk n))) (.h y) = chk (0 ≤ n ∧ n < es.length) (.h (bo es[n.toNat]? (.h fun e => y (.q e K 0)))) := by
 simp only [iaddr, asI, inR, chk]
 by_cases h : 0 ≤ n ∧ n < es.length
 ·rw [if_pos h, if_pos h]; simp only
  cases es[n.toNat]? with
  | none => rfl
  | some e => simp only [hK, if_true]; rfl
 ·rw [if_neg h, if_neg h]; rfl
theorem bo_addS {x y : List UInt8} {z : DV → Option R} : bo (binA .add (.d (.s x)) (.d (.s y))) (.h z) = chk (x.length + y.length < 4611686018427387904) (.h (z (.s (x ++ y)))) := by
 simp only [binA, binS, chk]
 by_cases h : x.length + y.length < 4611686018427387904
 ·rw [if_pos h, if_pos (by exact h)]; rfl
 ·rw [if_neg h, if_neg (by exact h)]; rfl
theorem bo_quo {x y : Int} {z : DV → Option R} : bo (binA .quo (.d (.i kk x)) (.d (.i kk y))) (.h z) = chk (y ≠ 0) (.h (z (.i kk (kk.wrap (x.tdiv y))))) := by
 simp only [binA, binI, if_true, chk]; by_cases h : y = 0 <;> simp [h, bo]
theorem bo_rem {x y : Int} {z : DV → Option R} : bo (binA .rem (.d (.i kk x)) (.d (.i kk y))) (.h z) = chk (y ≠ 0) (.h (z (.i kk (x.tmod y)))) := by
 simp only [binA, binI, if_true, chk]; by_cases h : y = 0 <;> simp [h, bo]
end
noncomputable def fin (E : Env) (rs : List RV) : KC (PV × Bool)
 | .exit _, _, _ => none
 | _, fr, H => bo (runG E (ghosts fr) H) (.h fun H => bo (results fr H rs) (.h fun vs => purT H (packed vs)))
theorem val_k (T : Tab) {f : Nat} {F : PF} (hF : T.F f = some F) {args : List DV} (ha : args.length = F.nargs) : T.val f args = kC T.env 0 (Fr.ofArgs 0 (args.map .d)) [] (.h (F.body, fin T.env F.results)) := by
 rw [val_eq T hF]
 unfold evalF
 rw [if_pos (by simpa using ha)]
 simp only [kC, List.length_nil]
 cases evalC T.env lpI 0 F.body ⟨Fr.ofArgs 0 (args.map .d), []⟩ with
 | none => rfl
 | some x =>
  obtain ⟨e, s⟩ := x
  cases e with
  | exit id => rfl
  | norm =>
   simp only [fin]
   cases runG T.env (ghosts s.fr) s.H with
   | none => rfl
   | some H' => simp only [bo]; cases results s.fr H' F.results <;> rfl
  | ret =>
   simp only [fin]
   cases runG T.env (ghosts s.fr) s.H with
   | none => rfl
   | some H' => simp only [bo]; cases results s.fr H' F.results <;> rfl
end Go.Sim
end
section
namespace Go.Sim
section
variable {R : Type} {E : Env} {base : Nat} {live : List Nat} {body : PC}
noncomputable def lpK (E : Env) (base : Nat) (live : List Nat) (body : PC) (k : KC R) : KC R
 | .norm, fr, H => kC E base fr H (.h (.loop live body, k))
 | .exit id, fr, H => k (.exit id) fr H
 | .ret, fr, H => k .ret fr H
theorem kC_loop {fr : Fr} {H : Heap} {k : KC R} : kC E base fr H (.h (.loop live body, k)) = kC E base (gc live base ⟨fr, H⟩).fr (gc live base ⟨fr, H⟩).H (.h (body, lpK E base live body k)) := by
 have h : evalC E lpI base (.loop live body) ⟨fr, H⟩ = lpI (fun s => evalC E lpI base body (gc live base s)) ⟨fr, H⟩ := rfl
 simp only [kC, h]
 rw [lpI_eq]
 cases hb : evalC E lpI base body (gc live base ⟨fr, H⟩) with
 | none => simp only
 | some x =>
  obtain ⟨e, s⟩ := x
  simp only
  cases e with
  | norm => rfl
  | exit id => rfl
  | ret => rfl
def rounds {α β : Type} (step : Nat → β → α → (β → Option R) → Option R) (done : β → Option R) : Nat → β → List α → Option R
 | _, b, [] => done b
 | i, b, x :: r => step i b x fun b' => rounds step done (i + 1) b' r
theorem loop_rounds {α β : Type} (ls : List α) (st : Nat → β → St) (inv : Nat → β → Prop) (step : Nat → β → α → (β → Option R) → Option R) (done : β → Option R) {k : KC R}
  (hend : ∀ B, B = body → ∀ b, inv ls.length b → kC E base (st ls.length b).fr (st ls.length b).H (.h (body, lpK E base live B k)) = done b)
  (hround : ∀ B, B = body → ∀ i b (h : i < ls.length), inv i b → ∀ c : β → Option R, (∀ b' fr H, inv (i + 1) b' → gc live base ⟨fr, H⟩ = st (i + 1) b' → kC E base fr H (.h (.loop live B, k)) = c b') → kC E base (st i b).fr (st i b).H (.h (body, lpK E base live B k)) = step i b ls[i] c)
  {fr : Fr} {H : Heap} {b0 : β} (h0 : gc live base ⟨fr, H⟩ = st 0 b0) (hi : inv 0 b0) : kC E base fr H (.h (.loop live body, k)) = rounds step done 0 b0 ls := by
 have key : ∀ (n i : Nat) (b : β) (fr : Fr) (H : Heap), i + n = ls.length → inv i b → gc live base ⟨fr, H⟩ = st i b → kC E base fr H (.h (.loop live body, k)) = rounds step done i b (ls.drop i) := by
  intro n
  induction n with
  | zero =>
   intro i b fr H hn hv hg
   have hi : i = ls.length := by omega
   subst hi
   rw [kC_loop, hg, hend body rfl b hv, List.drop_length]
   rfl
  | succ n ih =>
   intro i b fr H hn hv hg
   have hlt : i < ls.length := by omega
   rw [kC_loop, hg, List.drop_eq_getElem_cons hlt]
   exact hround body rfl i b hlt hv _ fun b' fr' H' hv' hg' => ih (i + 1) b' fr' H' (by omega) hv' hg'
 have := key ls.length 0 b0 fr H (by omega) hi h0
 simpa using this
theorem rounds_all {α : Type} (p : α → Bool) (r : Option R) (done : Unit → Option R) (step : Nat → Unit → α → (Unit → Option R) → Option R) (hs : ∀ i b x c, step i b x c = if p x = true then c () else r) : ∀ (i : Nat) (ls : List α), rounds step done i () ls = if ls.all p = true then done () else r
 | i, [] => by simp [rounds]
 | i, x :: l => by
  rw [rounds, hs, rounds_all p r done step hs (i + 1) l]
  cases h : p x <;> simp [h]
end
end Go.Sim
end
section
namespace Go.Sim
section
variable {R : Type} {y : PV → Option R} {H : Heap}
theorem cells_d (v : DV) : (PV.d v).cells = v.cells.map .d := by cases v <;> rfl
theorem take1 {α : Type} (l : List α) (c : Nat) : (l.drop c).take 1 = match l[c]? with | some x => [x] | none => [] := by
 cases h : l[c]? with
 | none => rw [List.getElem?_eq_none_iff] at h; rw [List.drop_eq_nil_iff.2 h]; rfl
 | some x =>
  obtain ⟨hc, rfl⟩ := List.getElem?_eq_some_iff.1 h
  rw [List.drop_eq_getElem_cons hc]; rfl
theorem subP0 (n : Nat) (v : DV) (c : Nat) : bo (subP (some n) (.d v) c none) (.h y) = chk (c < n) (.h (bo v.cells[c]? (.h fun x => y (.d x)))) := by
 unfold chk
 simp only [subP, K.eq, Bool.and_false, Bool.false_eq_true, if_false]
 change bo (@ite _ (c + 1 ≤ n) (Nat.decLe _ _) (mkP none ((List.drop c (PV.d v).cells).take 1)) none) (.h y) = _
 by_cases h : c < n
 ·rw [if_pos h, if_pos (by omega), take1, cells_d, List.getElem?_map]
  cases v.cells[c]? <;> rfl
 ·rw [if_neg h, if_neg (by omega)]; rfl
theorem subD0 (n : Nat) (v : DV) (c : Nat) {z : DV → Option R} : bo (subD (some n) v c none) (.h z) = chk (c < n) (.h (bo v.cells[c]? (.h z))) := by
 unfold chk
 simp only [subD, K.eq, Bool.and_false, Bool.false_eq_true, if_false]
 change bo (@ite _ (c + 1 ≤ n) (Nat.decLe _ _) (mkD none ((List.drop c v.cells).take 1)) none) (.h z) = _
 by_cases h : c < n
 ·rw [if_pos h, if_pos (by omega), take1]
  cases v.cells[c]? <;> rfl
 ·rw [if_neg h, if_neg (by omega)]; rfl
theorem ld_q0 (n : Nat) (v : DV) (c : Nat) : bo (loadA H none (.q v (some n) c)) (.h y) = chk (c < n) (.h (bo v.cells[c]? (.h fun x => y (.d x)))) := by
 have h := subD0 (R := R) n v c (z := fun x => y (.d x))
 rw [← h]
 simp only [loadA]
 cases subD (some n) v c none <;> rfl
theorem ld_qw (k : K) (v : DV) : bo (loadA H k (.q v k 0)) (.h y) = y (.d v) := by
 have : K.eq k k = true := by cases k <;> simp [K.eq]
 simp [loadA, subD, this, bo]
theorem obj_0 (x : Option Obj) (H : Heap) : Heap.obj (x :: H) 0 = x := rfl
theorem obj_s (x : Option Obj) (H : Heap) (n : Nat) : Heap.obj (x :: H) (n + 1) = Heap.obj H n := rfl
theorem ld_p (k : K) (o i c : Nat) : bo (loadA H k (.p o i c)) (.h y) = match H.obj o with
  | some (.box kb v) => chk (i = 0) (.h (bo (subP kb v c k) (.h y)))
  | some (.sl kb _ es) => bo es[i]? (.h fun e => bo (subD kb e c k) (.h fun x => y (.d x)))
  | _ => none := by
 simp only [loadA]
 cases H.obj o with
 | none => rfl
 | some x => cases x with
  | box kb v =>
   simp only
   by_cases h : i = 0
   ·subst h; simp [chk]
   ·have : (i == 0) = false := by simpa using h
    simp [h, this, bo, chk]
  | sl kb ro es =>
   simp only
   cases es[i]? with
   | none => rfl
   | some e => simp only [bo]; cases subD kb e c k <;> rfl
  | _ => rfl
theorem subPw (k : K) (v : PV) : bo (subP k v 0 k) (.h y) = y v := by
 have : K.eq k k = true := by cases k <;> simp [K.eq]
 simp [subP, this, bo]
theorem bo_moveP (off o i c : Nat) : bo (moveA off (.p o i c)) (.h y) = y (.p o i (c + off)) := rfl
theorem bo_moveQ (off : Nat) (v : DV) (k : K) (c : Nat) : bo (moveA off (.q v k c)) (.h y) = y (.q v k (c + off)) := rfl
variable {z : Nat → Option R}
theorem bo_lenl (k : K) (es : List DV) (t : Bool) : bo (lenA H false (.d (.l k es t))) (.h z) = z es.length := rfl
theorem bo_lens (s : List UInt8) : bo (lenA H true (.d (.s s))) (.h z) = z s.length := rfl
theorem bo_lenr (o : Nat) (k : K) (off len : Nat) (t : Bool) : bo (lenA H false (.r o k off len t)) (.h z) = match H.obj o with | some (.sl _ _ es) => chk (off + len ≤ es.length) (.h (z len)) | _ => none := by
 simp only [lenA, chk]
 cases H.obj o with
 | none => rfl
 | some x => cases x with
  | sl kb ro es => simp only [Bool.false_eq_true, if_false]; split <;> rfl
  | _ => rfl
variable {d : DV → Option R}
section
variable (k : IntKind) (a b : Int)
theorem bo_add : bo (binA .add (.d (.i k a)) (.d (.i k b))) (.h d) = d (.i k (k.wrap (a + b))) := by simp [binA, binI, bo]
theorem bo_sub : bo (binA .sub (.d (.i k a)) (.d (.i k b))) (.h d) = d (.i k (k.wrap (a - b))) := by simp [binA, binI, bo]
theorem bo_mul : bo (binA .mul (.d (.i k a)) (.d (.i k b))) (.h d) = d (.i k (k.wrap (a * b))) := by simp [binA, binI, bo]
theorem bo_eql : bo (binA .eql (.d (.i k a)) (.d (.i k b))) (.h d) = d (.b (a == b)) := by simp [binA, binI, bo]
theorem bo_neq : bo (binA .neq (.d (.i k a)) (.d (.i k b))) (.h d) = d (.b (a != b)) := by simp [binA, binI, bo]
theorem bo_lss : bo (binA .lss (.d (.i k a)) (.d (.i k b))) (.h d) = d (.b (decide (a < b))) := by simp [binA, binI, bo]
theorem bo_leq : bo (binA .leq (.d (.i k a)) (.d (.i k b))) (.h d) = d (.b (decide (a ≤ b))) := by simp [binA, binI, bo]
theorem bo_gtr : bo (binA .gtr (.d (.i k a)) (.d (.i k b))) (.h d) = d (.b (decide (b < a))) := by simp [binA, binI, bo]
theorem bo_geq : bo (binA .geq (.d (.i k a)) (.d (.i k b))) (.h d) = d (.b (decide (b ≤ a))) := by simp [binA, binI, bo]
theorem bo_neg : bo (unA .neg (.d (.i k a))) (.h d) = d (.i k (k.wrap (-a))) := by simp [unA, bo]
end
theorem bo_not (b : Bool) : bo (unA .not (.d (.b b))) (.h d) = d (.b (!b)) := rfl
theorem bo_eqS (a b : List UInt8) : bo (binA .eql (.d (.s a)) (.d (.s b))) (.h d) = d (.b (a == b)) := rfl
theorem bo_neS (a b : List UInt8) : bo (binA .neq (.d (.s a)) (.d (.s b))) (.h d) = d (.b (!(a == b))) := rfl
theorem K_ss (n m : Nat) : K.eq (some n) (some m) = (n == m) := rfl
theorem K_ns (n : Nat) : K.eq none (some n) = false := rfl
theorem K_sn (n : Nat) : K.eq (some n) none = false := rfl
theorem K_refl (k : K) : K.eq k k = true := by cases k <;> simp [K.eq]
theorem get_c (j t : Nat) (v : PV) (r : Fr) : Fr.get ((j, v) :: r) t = if j = t then v else Fr.get r t := rfl
theorem get_n (t : Nat) : Fr.get [] t = .u := rfl
theorem drop_c (l : List Nat) (j : Nat) (v : PV) (r : Fr) : Fr.drop l ((j, v) :: r) = if (l.contains j && Nat.blt j gh) = true then Fr.drop l r else (j, v) :: Fr.drop l r := rfl
theorem drop_n (l : List Nat) : Fr.drop l [] = [] := rfl
theorem set_c (j t : Nat) (x v : PV) (r : Fr) : Fr.set ((j, x) :: r) t v = if j = t then (t, v) :: r else if j < t then (t, v) :: (j, x) :: r else (j, x) :: Fr.set r t v := rfl
theorem set_n (t : Nat) (v : PV) : Fr.set [] t v = [(t, v)] := rfl
theorem fix_c (j t : Nat) (v : PV) (r : Fr) (b : Bool) : Fr.fix ((j, v) :: r) t b = if j = t then (j, .d (.b b)) :: r else (j, v) :: Fr.fix r t b := rfl
theorem fix_n (t : Nat) (b : Bool) : Fr.fix [] t b = [] := rfl
theorem wrI {n : Int} (h : -9223372036854775808 ≤ n) (h' : n < 9223372036854775808) : IntKind.i64.wrap n = n := by
 rw [IntKind.wrap_i64]; omega
theorem ghosts_c (j : Nat) (v : PV) (r : Fr) : ghosts ((j, v) :: r) = if Nat.ble gh j = true then v :: ghosts r else ghosts r := rfl
theorem ghosts_n : ghosts [] = [] := rfl
theorem fin_ret {E : Env} {rs : List RV} {fr : Fr} (h : ghosts fr = []) : fin E rs .ret fr H = bo (results fr H rs) (.h fun vs => purT H (packed vs)) := by
 simp only [fin, h]; rfl
theorem fin_norm {E : Env} {rs : List RV} {fr : Fr} (h : ghosts fr = []) : fin E rs .norm fr H = bo (results fr H rs) (.h fun vs => purT H (packed vs)) := by
 simp only [fin, h]; rfl
theorem bo_res0 {fr : Fr} {y : List PV → Option R} : bo (results fr H []) (.h y) = y [] := rfl
theorem bo_rest {fr : Fr} {n : Nat} {r : List RV} {y : List PV → Option R} : bo (results fr H (.t n :: r)) (.h y) = bo (results fr H r) (.h fun vs => y (fr.get n :: vs)) := by
 simp only [results]; cases results fr H r <;> rfl
theorem bo_resc {fr : Fr} {n : Nat} {k : K} {r : List RV} {y : List PV → Option R} : bo (results fr H (.c n k :: r)) (.h y) = bo (loadA H k (fr.get n)) (.h fun v => bo (results fr H r) (.h fun vs => y (v :: vs))) := by
 simp only [results]
 cases loadA H k (fr.get n) with
 | none => rfl
 | some v => simp only [bo]; cases results fr H r <;> rfl
theorem packed1 (v : PV) : packed [v] = v := rfl
theorem packed2 (v w : PV) (r : List PV) : packed (v :: w :: r) = .t (v :: w :: r) := rfl
theorem purT_b (b : Bool) : purT H (.d (.b b)) = some (.d (.b b), false) := rfl
theorem purT_i (k : IntKind) (n : Int) : purT H (.d (.i k n)) = some (.d (.i k n), false) := rfl
theorem purT_s (s : List UInt8) : purT H (.d (.s s)) = some (.d (.s s), false) := rfl
theorem purT_a (cs : List DV) : purT H (.d (.a cs)) = some (.d (.a cs), false) := rfl
theorem purT_lt (k : K) (es : List DV) : purT H (.d (.l k es true)) = some (.d (.l k es false), es.isEmpty) := rfl
theorem purT_lf (k : K) (es : List DV) : purT H (.d (.l k es false)) = some (.d (.l k es false), false) := rfl
variable {hy : Heap → Option R}
theorem st_box (kb k : K) (o i c : Nat) (v w : PV) (ho : H.obj o = some (.box kb w)) : bo (storeA H k (.p o i c) v) (.h hy) = chk (fits k v = true) (.h (chk (i = 0) (.h (if (c == 0 && K.eq k kb) = true then hy (H.put o (some (.box kb v))) else chk (c + k.size ≤ w.cells.length) (.h (bo (mkP kb (putAt w.cells c v.cells)) (.h fun w' => hy (H.put o (some (.box kb w')))))))))) := by
 simp only [storeA, ho, chk]
 by_cases hf : fits k v = true
 ·simp only [hf, if_true]
  by_cases hi : i = 0
  ·subst hi
   simp only [beq_self_eq_true, if_true]
   by_cases hc : (c == 0 && K.eq k kb) = true
   ·simp only [hc, if_true]; rfl
   ·simp only [hc, Bool.false_eq_true, if_false]
    by_cases hs : c + k.size ≤ w.cells.length
    ·simp only [hs, if_true]
     cases mkP kb (putAt w.cells c v.cells) <;> rfl
    ·simp only [hs, if_false]; rfl
  ·have : (i == 0) = false := by simpa using hi
   simp only [this, hi, Bool.false_eq_true, if_false]; rfl
 ·simp only [hf, Bool.false_eq_true, if_false]; rfl
def stK (H : Heap) (k : K) (o i c : Nat) (v : PV) (x : Option Obj) {hy : Heap → Option R} (_ : Hd hy) : Option R := match x with
 | some (.box kb w) => chk (fits k v = true) (.h (chk (i = 0) (.h (if (c == 0 && K.eq k kb) = true then hy (H.put o (some (.box kb v))) else chk (c + k.size ≤ w.cells.length) (.h (bo (mkP kb (putAt w.cells c v.cells)) (.h fun w' => hy (H.put o (some (.box kb w'))))))))))
 | _ => bo (storeA H k (.p o i c) v) (.h hy)
theorem st_p (k : K) (o i c : Nat) (v : PV) : bo (storeA H k (.p o i c) v) (.h hy) = stK H k o i c v (H.obj o) (.h hy) := by
 unfold stK
 split
 ·rename_i kb w ho; exact st_box kb k o i c v w ho
 ·rfl
theorem stK_box (kb k : K) (o i c : Nat) (v w : PV) : stK H k o i c v (some (.box kb w)) (.h hy) = chk (fits k v = true) (.h (chk (i = 0) (.h (if (c == 0 && K.eq k kb) = true then hy (H.put o (some (.box kb v))) else chk (c + k.size ≤ w.cells.length) (.h (bo (mkP kb (putAt w.cells c v.cells)) (.h fun w' => hy (H.put o (some (.box kb w')))))))))) := rfl
def callvK (E : Env) (H : Heap) (v : PV) (as0 : List PV) {q : PV → Heap → Option R} (_ : Hd q) : Option R := match v with
 | .f n caps => match (if caps.isEmpty = true then plains as0 else none) with
  | some ds => bo (E.val n ds) (.h fun r => q r.1 H)
  | none => bo2 (E.ref n (as0 ++ caps) H) (.h q)
 | .m n firsts => match plains (firsts ++ as0) with
  | some ds => bo (E.val n ds) (.h fun r => q r.1 H)
  | none => bo2 (E.ref n (firsts ++ as0) H) (.h q)
 | .h o => bo2 (E.yld o as0 H) (.h q)
 | _ => none
theorem b_callv {E : Env} {ρ : Rand → PV} {id : Nat} {x : Rand} {as0 : List Rand} {q : PV → Heap → Option R} : bo2 (evalOp E ρ H id (.callv x as0)) (.h q) = callvK E H (ρ x) (as0.map ρ) (.h q) := by
 simp only [evalOp, callvK]
 cases ρ x with
 | f n caps =>
  simp only
  cases (if caps.isEmpty = true then plains (as0.map ρ) else none) with
  | none => rfl
  | some ds => simp only; cases E.val n ds <;> rfl
 | m n firsts =>
  simp only
  cases plains (firsts ++ as0.map ρ) with
  | none => rfl
  | some ds => simp only; cases E.val n ds <;> rfl
 | _ => rfl
theorem callvK_f0 {E : Env} {n : Nat} {as0 : List PV} {q : PV → Heap → Option R} : callvK E H (.f n []) as0 (.h q) = match plains as0 with | some ds => bo (E.val n ds) (.h fun r => q r.1 H) | none => bo2 (E.ref n (as0 ++ []) H) (.h q) := rfl
theorem callvK_f1 {E : Env} {n : Nat} {c : PV} {cs : List PV} {as0 : List PV} {q : PV → Heap → Option R} : callvK E H (.f n (c :: cs)) as0 (.h q) = bo2 (E.ref n (as0 ++ c :: cs) H) (.h q) := rfl
theorem plains_n : plains [] = some [] := rfl
theorem plains_c (v : DV) (r : List PV) : plains (.d v :: r) = match plains r with | some vs => some (v :: vs) | none => none := rfl
theorem env_val (T : Tab) (f : Nat) (ds : List DV) : T.env.val f ds = T.val f ds := rfl
theorem env_ref (T : Tab) (f : Nat) (as0 : List PV) (H : Heap) : T.env.ref f as0 H = T.ref f as0 H := rfl
theorem purs_n : purs H [] = some ([], []) := rfl
theorem purs_d (v : DV) (r : List PV) : purs H (.d v :: r) = match purs H r with | some (xs, ps) => some (v :: xs, ps) | none => none := by
 simp only [purs, pur, purC]
 cases purs H r <;> rfl
theorem mkf_b {E : Env} {ρ : Rand → PV} {id f : Nat} {cs : List Rand} {q : PV → Heap → Option R} : bo2 (evalOp E ρ H id (.mkf f cs)) (.h q) = q (.f f (cs.map ρ)) H := rfl
theorem plainsD_map : ∀ l : List DV, plains (l.map PV.d) = some l
 | [] => rfl
 | v :: l => by simp [plains, plainsD_map l]
theorem subPs (n m : Nat) (v : DV) (c : Nat) : bo (subP (some n) (.d v) c (some m)) (.h y) = if (c == 0 && m == n) = true then y (.d v) else chk (c + m ≤ n ∧ ((v.cells.drop c).take m).length = m) (.h (y (.d (.a ((v.cells.drop c).take m))))) := by
 by_cases h : (c == 0 && m == n) = true
 ·have h' := h
  simp only [Bool.and_eq_true, beq_iff_eq] at h'
  obtain ⟨rfl, rfl⟩ := h'
  rw [subPw]; simp
 ·rw [if_neg h]
  have h' : (c == 0 && K.eq (some m) (some n)) = false := by simpa [K.eq] using h
  simp only [subP, h', Bool.false_eq_true, if_false, chk]
  change bo (@ite _ (c + m ≤ n) (Nat.decLe _ _) (mkP (some m) ((List.drop c (PV.d v).cells).take m)) none) (.h y) = _
  rw [cells_d, ← List.map_drop, ← List.map_take]
  by_cases h1 : c + m ≤ n
  ·rw [if_pos h1]
   by_cases h2 : ((v.cells.drop c).take m).length = m
   ·rw [if_pos ⟨h1, h2⟩]
    simp only [mkP, List.length_map, h2, if_true, mkA, plainsD_map]; rfl
   ·rw [if_neg (fun h => h2 h.2)]
    simp only [mkP, List.length_map, h2, if_false]; rfl
  ·rw [if_neg h1, if_neg (fun h => h1 h.1)]; rfl
theorem ld_qs (n m : Nat) (v : DV) (c : Nat) : bo (loadA H (some m) (.q v (some n) c)) (.h y) = if (c == 0 && m == n) = true then y (.d v) else chk (c + m ≤ n ∧ ((v.cells.drop c).take m).length = m) (.h (y (.d (.a ((v.cells.drop c).take m))))) := by
 by_cases h : (c == 0 && m == n) = true
 ·have h' := h
  simp only [Bool.and_eq_true, beq_iff_eq] at h'
  obtain ⟨rfl, rfl⟩ := h'
  rw [ld_qw]; simp
 ·rw [if_neg h]
  have h' : (c == 0 && K.eq (some m) (some n)) = false := by simpa [K.eq] using h
  simp only [loadA, subD, h', Bool.false_eq_true, if_false, chk]
  change bo (match @ite _ (c + m ≤ n) (Nat.decLe _ _) (mkD (some m) ((List.drop c v.cells).take m)) none with | some x => some (PV.d x) | none => none) (.h y) = _
  by_cases h1 : c + m ≤ n
  ·rw [if_pos h1]
   by_cases h2 : ((v.cells.drop c).take m).length = m
   ·rw [if_pos ⟨h1, h2⟩]
    simp only [mkD, h2, if_true]; rfl
   ·rw [if_neg (fun h => h2 h.2)]
    simp only [mkD, h2, if_false]; rfl
  ·rw [if_neg h1, if_neg (fun h => h1 h.1)]; rfl
end
theorem wr1 {i : Nat} (h : (i : Int) + 1 < 9223372036854775808) : IntKind.i64.wrap ((i : Int) + 1) = (i : Int) + 1 := wrI (by omega) h
theorem mxl : maxLen = 9223372036854775807 := rfl
end Go.Sim
end
section
namespace Go.Sim
section
variable {R : Type} {E : Env} {fr : Fr} {H : Heap} {bf : List Nat} {acc : List (List Nat × List Nat)} {id : Nat} {j : KO R}
def rdS : IOp → Bool
 | .mov _ | .pick _ _ _ | .load _ _ | .bin _ _ _ | .eqv _ _ _ _ | .eqb _ _ _ | .isnil _ _ _ | .un _ _ | .conv _ _ | .slS _ _ _ | .sl _ _ _ _ _ | .faddr _ _ | .field _ _ _ | .iaddr _ _ _ | .iaddrA _ _ _ _ | .idxS _ _ | .idxA _ _ _ _ | .len _ _ | .ext _ _ | .nilck _ | .minmax _ _ | .call 0 _ _ => true
 | _ => false
def noSl : Heap → Bool
 | [] => true
 | some (.sl _ _ _) :: _ => false
 | _ :: r => noSl r
theorem noSl_obj : ∀ {H : Heap} {o : Nat}, noSl H = true → ∀ k ro es, H.obj o ≠ some (.sl k ro es)
 | [], o, _, k, ro, es, h => by simp [Heap.obj] at h
 | x :: r, 0, hn, k, ro, es, h => by
  have : x = some (.sl k ro es) := h
  subst this
  simp [noSl] at hn
 | x :: r, o + 1, hn, k, ro, es, h => by
  have hn' : noSl r = true := by
   cases x with
   | none => exact hn
   | some y => cases y <;> first | exact hn | (simp [noSl] at hn)
  exact noSl_obj (H := r) (o := o) hn' k ro es h
theorem frz_no {H : Heap} (hn : noSl H = true) : ∀ os : List Nat, frz H os = H
 | [] => rfl
 | o :: r => by
  have h1 : frz1 H o = H := by
   unfold frz1
   split
   ·rename_i k ro es h; exact absurd h (noSl_obj hn k ro es)
   ·rfl
  rw [frz, h1, frz_no hn r]
theorem opt_H {x : Option PV} {H H' : Heap} {v : PV} (h : opt x H = some (v, H')) : H' = H := by
 cases x with
 | none => cases h
 | some y => cases h; rfl
theorem optD_H {x : Option DV} {H H' : Heap} {v : PV} (h : optD x H = some (v, H')) : H' = H := by
 cases x with
 | none => cases h
 | some y => cases h; rfl
theorem rdS_H {ρ : Rand → PV} {op : IOp} (hs : rdS op = true) (hn : noSl H = true) {v : PV} {H' : Heap} (h : evalOp E ρ H id op = some (v, H')) : H' = H := by
 cases op with
 | call m f as0 =>
  match m with
  | 0 =>
   simp only [evalOp] at h
   split at h
   ·split at h
    ·simp only [Option.some.injEq, Prod.mk.injEq] at h
     rw [← h.2, frz_no hn]; split <;> rfl
    ·cases h
   ·cases h
  | m + 1 => simp [rdS] at hs
 | mov x => cases h; rfl
 | pick c a b => simp only [evalOp] at h; split at h <;> first | (cases h; rfl) | cases h
 | load k x => exact opt_H h
 | bin op x y => exact optD_H h
 | eqv neg ks x y => simp only [evalOp] at h; split at h <;> first | (cases h; rfl) | cases h
 | eqb neg x y => simp only [evalOp] at h; split at h <;> first | (cases h; rfl) | cases h
 | isnil neg kd x => simp only [evalOp] at h; split at h <;> first | (cases h; rfl) | cases h
 | un op x => exact optD_H h
 | conv k x => simp only [evalOp] at h; split at h <;> first | (cases h; rfl) | cases h
 | slS x lo hi => simp only [evalOp] at h; (repeat' split at h) <;> first | (cases h; rfl) | cases h
 | sl k x lo hi mx => exact opt_H h
 | faddr o x => exact opt_H h
 | field o k x => exact opt_H h
 | iaddr k x i => exact opt_H h
 | iaddrA n k x i => simp only [evalOp] at h; (repeat' split at h) <;> first | exact opt_H h | cases h
 | idxS x i => simp only [evalOp] at h; (repeat' split at h) <;> first | (cases h; rfl) | cases h
 | idxA n k x i => simp only [evalOp] at h; (repeat' split at h) <;> first | exact opt_H h | cases h
 | len s x => simp only [evalOp] at h; split at h <;> first | (cases h; rfl) | cases h
 | ext x i => simp only [evalOp] at h; split at h <;> first | exact opt_H h | cases h
 | nilck x => simp only [evalOp] at h; split at h <;> first | (cases h; rfl) | cases h
 | minmax m as0 => simp only [evalOp] at h; split at h <;> first | exact opt_H h | cases h
 | _ => simp [rdS] at hs
theorem rdS_f {op : IOp} (hs : rdS op = true) (ρ : Rand → PV) : op.adds = false ∧ op.okD ρ = true ∧ storeD ρ op = [] := by
 cases op with
 | call m f as0 =>
  match m with
  | 0 => exact ⟨rfl, rfl, rfl⟩
  | m + 1 => simp [rdS] at hs
 | _ => first | exact ⟨rfl, rfl, rfl⟩ | simp [rdS] at hs
theorem chg_self (H : Heap) : ∀ l, chg H H l = []
 | [] => rfl
 | o :: r => by simp only [chg, Nat.beq_refl, if_true]; exact chg_self H r
theorem pairsD_r (b : Nat) (t : List Nat) : ∀ (acc : List (List Nat × List Nat)) (i : Nat), (∀ x ∈ acc, x.2 = []) → pairsD b i acc t [] = true
 | [], _, _ => rfl
 | x :: r, i, h => by
  simp only [pairsD, pairsD_r b t r (i + 1) (fun y hy => h y (List.mem_cons_of_mem _ hy)), h x (List.mem_cons_self ..), Bool.and_true]
  simp [disj]
def setO (dst : Option Nat) (fr : Fr) (v : PV) : Fr := match dst with | some t => fr.set t v | none => fr
theorem evalOpsD_seq : ∀ (ops : List IOper) (bf : List Nat) (acc : List (List Nat × List Nat)) (id : Nat) (fr : Fr) (H : Heap), (ops.all fun o => rdS o.op) = true → noSl H = true → (∀ x ∈ acc, x.2 = []) → evalOpsD E ops bf acc id ⟨fr, H⟩ = evalOps E ops id ⟨fr, H⟩
 | [], _, _, _, _, _, _, _, _ => rfl
 | o :: r, bf, acc, id, fr, H, ho, hn, ha => by
  simp only [List.all_cons, Bool.and_eq_true] at ho
  obtain ⟨h1, h2, h3⟩ := rdS_f ho.1 (rd E fr)
  have hid : (if o.op.adds = true then id + 1 else id) = id := by rw [h1]; rfl
  have ha' : ∀ (t : List Nat), ∀ x ∈ acc ++ [(t, ([] : List Nat))], x.2 = [] := fun t x hx => by
   rcases List.mem_append.1 hx with h | h
   ·exact ha x h
   ·rw [List.mem_singleton.1 h]
  have step : ∀ (v : PV) (H' : Heap), evalOp E (rd E fr) H id o.op = some (v, H') → ∀ fr', evalOpsD E r bf.tail (acc ++ [(writeS E o id ⟨fr, H⟩ ⟨fr', H'⟩ ++ touchS E o ⟨fr, H⟩, writeS E o id ⟨fr, H⟩ ⟨fr', H'⟩)]) id ⟨fr', H'⟩ = evalOps E r id ⟨fr', H'⟩ ∧ pairsD (bf.headD 0) 0 acc (writeS E o id ⟨fr, H⟩ ⟨fr', H'⟩ ++ touchS E o ⟨fr, H⟩) (writeS E o id ⟨fr, H⟩ ⟨fr', H'⟩) = true := by
   intro v H' he fr'
   have := rdS_H ho.1 hn he
   subst this
   have hw : writeS E o id ⟨fr, H'⟩ ⟨fr', H'⟩ = [] := by
    unfold writeS; split
    ·simp [h1, h3, chg_self]
    ·rfl
   rw [hw]
   exact ⟨evalOpsD_seq r _ _ id fr' H' ho.2 hn (ha' _), pairsD_r _ _ _ _ ha⟩
  have skip : runs o fr = false → ∀ fr', evalOpsD E r bf.tail (acc ++ [(writeS E o id ⟨fr, H⟩ ⟨fr', H⟩ ++ touchS E o ⟨fr, H⟩, writeS E o id ⟨fr, H⟩ ⟨fr', H⟩)]) id ⟨fr', H⟩ = evalOps E r id ⟨fr', H⟩ ∧ pairsD (bf.headD 0) 0 acc (writeS E o id ⟨fr, H⟩ ⟨fr', H⟩ ++ touchS E o ⟨fr, H⟩) (writeS E o id ⟨fr, H⟩ ⟨fr', H⟩) = true := by
   intro hr fr'
   have hw : writeS E o id ⟨fr, H⟩ ⟨fr', H⟩ = [] := by unfold writeS; rw [hr]; rfl
   rw [hw]
   exact ⟨evalOpsD_seq r _ _ id fr' H ho.2 hn (ha' _), pairsD_r _ _ _ _ ha⟩
  obtain ⟨dst, op, g⟩ := o
  simp only at h1 h2 h3 hid
  have go : (match (match evalOpD E (rd E fr) H id op with | some (v, H') => some (⟨setO dst fr v, H'⟩ : St) | none => none) with
    | some s' => if pairsD (bf.headD 0) 0 acc (writeS E ⟨dst, op, g⟩ id ⟨fr, H⟩ s' ++ touchS E ⟨dst, op, g⟩ ⟨fr, H⟩) (writeS E ⟨dst, op, g⟩ id ⟨fr, H⟩ s') = true then evalOpsD E r bf.tail (acc ++ [(writeS E ⟨dst, op, g⟩ id ⟨fr, H⟩ s' ++ touchS E ⟨dst, op, g⟩ ⟨fr, H⟩, writeS E ⟨dst, op, g⟩ id ⟨fr, H⟩ s')]) id s' else none
    | none => none) = match evalOp E (rd E fr) H id op with | some (v, H') => evalOps E r id ⟨setO dst fr v, H'⟩ | none => none := by
   simp only [evalOpD, h2, if_true]
   cases he : evalOp E (rd E fr) H id op with
   | none => rfl
   | some x =>
    obtain ⟨v, H'⟩ := x
    obtain ⟨q1, q2⟩ := step v H' he (setO dst fr v)
    simp only [q2, if_true, q1]
  have no : runs ⟨dst, op, g⟩ fr = false → (if pairsD (bf.headD 0) 0 acc (writeS E ⟨dst, op, g⟩ id ⟨fr, H⟩ ⟨setO dst fr (.t []), H⟩ ++ touchS E ⟨dst, op, g⟩ ⟨fr, H⟩) (writeS E ⟨dst, op, g⟩ id ⟨fr, H⟩ ⟨setO dst fr (.t []), H⟩) = true then evalOpsD E r bf.tail (acc ++ [(writeS E ⟨dst, op, g⟩ id ⟨fr, H⟩ ⟨setO dst fr (.t []), H⟩ ++ touchS E ⟨dst, op, g⟩ ⟨fr, H⟩, writeS E ⟨dst, op, g⟩ id ⟨fr, H⟩ ⟨setO dst fr (.t []), H⟩)]) id ⟨setO dst fr (.t []), H⟩ else none) = evalOps E r id ⟨setO dst fr (.t []), H⟩ := by
   intro hr
   obtain ⟨q1, q2⟩ := skip hr (setO dst fr (.t []))
   simp only [q2, if_true, q1]
  simp only [evalOpsD, stepD, evalOps, hid]
  cases g with
  | none => exact go
  | some g =>
   obtain ⟨t, w⟩ := g
   simp only
   cases hg : fr.get t with
   | d v =>
    cases v with
    | b b =>
     simp only
     by_cases hb : (b == w) = true
     ·simp only [hb, if_true]; exact go
     ·have hb' : (b == w) = false := by simpa using hb
      simp only [hb', Bool.false_eq_true, if_false]
      exact no (by simp [runs, hg, hb'])
    | _ => rfl
   | t vs =>
    cases vs with
    | nil => simp only; exact no (by simp [runs, hg])
    | cons => rfl
   | _ => rfl
theorem kC_regS {base : Nat} {k : KC R} {ops : List IOper} {kill : List Nat} (ho : (ops.all fun o => rdS o.op) = true) (hn : noSl H = true) : kC E base fr H (.h (.regD ops bf kill, k)) = kO E H.length fr H (.h (ops, rgK kill k)) := by
 have hz : nadds ops = 0 := by
  clear hn
  induction ops with
  | nil => rfl
  | cons o r ih =>
   simp only [List.all_cons, Bool.and_eq_true] at ho
   simp only [nadds, (rdS_f ho.1 (fun _ => .u)).1, ih ho.2]; rfl
 simp only [kC, evalC, evalRegD, kO, hz, List.replicate_zero, List.append_nil]
 rw [evalOpsD_seq ops bf [] H.length fr H ho hn (fun x hx => by cases hx)]
 cases evalOps E ops H.length ⟨fr, H⟩ <;> rfl
theorem kC_regS0 {base : Nat} {k : KC R} {ops : List IOper} {kill : List Nat} (ho : (ops.all fun o => rdS o.op) = true) : kC E base fr [] (.h (.regD ops bf kill, k)) = kO E 0 fr [] (.h (ops, rgK kill k)) := kC_regS ho rfl
theorem kC_regS1 {base : Nat} {k : KC R} {ops : List IOper} {kill : List Nat} {k0 : K} {v0 : PV} (ho : (ops.all fun o => rdS o.op) = true) : kC E base fr [some (.box k0 v0)] (.h (.regD ops bf kill, k)) = kO E 1 fr [some (.box k0 v0)] (.h (ops, rgK kill k)) := kC_regS ho rfl
theorem kC_regS2 {base : Nat} {k : KC R} {ops : List IOper} {kill : List Nat} {k0 k1 : K} {v0 v1 : PV} (ho : (ops.all fun o => rdS o.op) = true) : kC E base fr [some (.box k0 v0), some (.box k1 v1)] (.h (.regD ops bf kill, k)) = kO E 2 fr [some (.box k0 v0), some (.box k1 v1)] (.h (ops, rgK kill k)) := kC_regS ho rfl
theorem kC_regS3 {base : Nat} {k : KC R} {ops : List IOper} {kill : List Nat} {k0 k1 k2 : K} {v0 v1 v2 : PV} (ho : (ops.all fun o => rdS o.op) = true) : kC E base fr [some (.box k0 v0), some (.box k1 v1), some (.box k2 v2)] (.h (.regD ops bf kill, k)) = kO E 3 fr [some (.box k0 v0), some (.box k1 v1), some (.box k2 v2)] (.h (ops, rgK kill k)) := kC_regS ho rfl
theorem kC_regS4 {base : Nat} {k : KC R} {ops : List IOper} {kill : List Nat} {k0 k1 k2 k3 : K} {v0 v1 v2 v3 : PV} (ho : (ops.all fun o => rdS o.op) = true) : kC E base fr [some (.box k0 v0), some (.box k1 v1), some (.box k2 v2), some (.box k3 v3)] (.h (.regD ops bf kill, k)) = kO E 4 fr [some (.box k0 v0), some (.box k1 v1), some (.box k2 v2), some (.box k3 v3)] (.h (ops, rgK kill k)) := kC_regS ho rfl
theorem kC_regS5 {base : Nat} {k : KC R} {ops : List IOper} {kill : List Nat} {k0 k1 k2 k3 k4 : K} {v0 v1 v2 v3 v4 : PV} (ho : (ops.all fun o => rdS o.op) = true) : kC E base fr [some (.box k0 v0), some (.box k1 v1), some (.box k2 v2), some (.box k3 v3), some (.box k4 v4)] (.h (.regD ops bf kill, k)) = kO E 5 fr [some (.box k0 v0), some (.box k1 v1), some (.box k2 v2), some (.box k3 v3), some (.box k4 v4)] (.h (ops, rgK kill k)) := kC_regS ho rfl
end
end Go.Sim
end
section
namespace Go.Sim
mutual
theorem ren_id (ρ : Nat → Option Nat) : ∀ v : PV, (∀ r ∈ v.refs, ρ r = some r) → v.ren ρ = v
 | .u, _ => rfl
 | .d _, _ => rfl
 | .a cs, h => by rw [PV.ren, renL_id ρ cs (by simpa [PV.refs] using h)]
 | .t cs, h => by rw [PV.ren, renL_id ρ cs (by simpa [PV.refs] using h)]
 | .r o k off len t, h => by rw [PV.ren, h o (by simp [PV.refs])]
 | .p o i c, h => by rw [PV.ren, h o (by simp [PV.refs])]
 | .q _ _ _, _ => rfl
 | .f n cs, h => by rw [PV.ren, renL_id ρ cs (by simpa [PV.refs] using h)]
 | .h o, h => by rw [PV.ren, h o (by simp [PV.refs])]
 | .g v, h => by rw [PV.ren, ren_id ρ v (by simpa [PV.refs] using h)]
 | .m n cs, h => by rw [PV.ren, renL_id ρ cs (by simpa [PV.refs] using h)]
 | .w t v, h => by rw [PV.ren, ren_id ρ v (by simpa [PV.refs] using h)]
theorem renL_id (ρ : Nat → Option Nat) : ∀ cs : List PV, (∀ r ∈ PV.refsL cs, ρ r = some r) → PV.renL ρ cs = cs
 | [], _ => rfl
 | v :: cs, h => by
  simp only [PV.refsL, List.mem_append] at h
  rw [PV.renL, ren_id ρ v (fun r hr => h r (.inl hr)), renL_id ρ cs (fun r hr => h r (.inr hr))]
end
theorem orenO_id {ρ : Nat → Option Nat} {x : Option Obj} (h : ∀ r ∈ orefs x, ρ r = some r) : x.map (·.ren ρ) = x := by
 cases x with
 | none => rfl
 | some y =>
  cases y with
  | box k v => simp only [Option.map, Obj.ren, ren_id ρ v (by simpa [orefs, Obj.refs] using h)]
  | _ => rfl
theorem heap_id {ρ : Nat → Option Nat} : ∀ {H : Heap}, (∀ r ∈ heapRefs H, ρ r = some r) → H.map (·.map (·.ren ρ)) = H
 | [], _ => rfl
 | x :: H, h => by
  simp only [heapRefs, List.mem_append] at h
  rw [List.map_cons, orenO_id (fun r hr => h r (.inl hr)), heap_id (fun r hr => h r (.inr hr))]
theorem reach_low (H : Heap) (base : Nat) : ∀ (n : Nat) (acc todo : List Nat), (∀ o ∈ todo, o < base) → reach H base n acc todo = acc
 | 0, _, _, _ => rfl
 | n + 1, acc, [], _ => rfl
 | n + 1, acc, o :: todo, h => by
  rw [reach, if_pos (h o (List.mem_cons_self ..))]
  exact reach_low H base n acc todo fun x hx => h x (List.mem_cons_of_mem _ hx)
def Cl (H : Heap) : Prop := ∀ r ∈ heapRefs H, r < H.length
theorem gcV_low {H J : Heap} {v : PV} (hH : Cl H) (hf : ∀ r ∈ v.refs, r < H.length) : gcV H.length v (H ++ J) = (v, H) := by
 have ht : (H ++ J).take H.length = H := by simp
 have hr : reach (H ++ J) H.length 1000 [] (v.refs ++ heapRefs H) = [] := reach_low _ _ _ _ _ fun o ho => by
  rcases List.mem_append.1 ho with h | h
  ·exact hf o h
  ·exact hH o h
 have hp : ∀ r, r < H.length → place H.length [] r = some r := fun r h => by simp [place, h]
 simp only [gcV, ht, hr, gcH, List.map_nil, List.append_nil]
 rw [ren_id _ v (fun r h => hp r (hf r h)), heap_id (fun r h => hp r (hH r h))]
theorem gcVd {H : Heap} (hH : Cl H) (J : Heap) (v : DV) : gcV H.length (.d v) (H ++ J) = (.d v, H) := gcV_low hH (by simp [PV.refs])
noncomputable def finR (E : Env) (rs : List RV) (base : Nat) : KC (PV × Heap)
 | .exit _, _, _ => none
 | _, fr, H => bo (runG E (ghosts fr) H) (.h fun H => bo (results fr H rs) (.h fun vs => some (gcV base (packed vs) H)))
theorem ref_k (T : Tab) {f : Nat} {F : PF} (hF : T.F f = some F) {args : List PV} {H : Heap} (ha : args.length = F.nargs) : T.ref f args H = kC T.env H.length (Fr.ofArgs 0 args) H (.h (F.body, finR T.env F.results H.length)) := by
 rw [ref_eq T hF]
 unfold evalF
 rw [if_pos ha]
 simp only [kC]
 cases evalC T.env lpI H.length F.body ⟨Fr.ofArgs 0 args, H⟩ with
 | none => rfl
 | some x =>
  obtain ⟨e, s⟩ := x
  cases e with
  | exit id => rfl
  | norm =>
   simp only [finR]
   cases runG T.env (ghosts s.fr) s.H with
   | none => rfl
   | some H' => simp only [bo]; cases results s.fr H' F.results <;> rfl
  | ret =>
   simp only [finR]
   cases runG T.env (ghosts s.fr) s.H with
   | none => rfl
   | some H' => simp only [bo]; cases results s.fr H' F.results <;> rfl
section
variable {E : Env} {rs : List RV} {base : Nat} {fr : Fr} {H : Heap}
theorem finR_ret (h : ghosts fr = []) : finR E rs base .ret fr H = bo (results fr H rs) (.h fun vs => some (gcV base (packed vs) H)) := by
 simp only [finR, h]; rfl
theorem finR_norm (h : ghosts fr = []) : finR E rs base .norm fr H = bo (results fr H rs) (.h fun vs => some (gcV base (packed vs) H)) := by
 simp only [finR, h]; rfl
theorem put_0 (y x : Option Obj) (H : Heap) : Heap.put (y :: H) 0 x = x :: H := rfl
theorem put_s (y x : Option Obj) (H : Heap) (n : Nat) : Heap.put (y :: H) (n + 1) x = y :: Heap.put H n x := rfl
theorem put_app (H : Heap) (J : Heap) (x : Option Obj) (i : Nat) : Heap.put (H ++ J) (H.length + i) x = H ++ Heap.put J i x := by
 simp [Heap.put]
theorem put_app0 (H : Heap) (J : Heap) (x : Option Obj) : Heap.put (H ++ J) H.length x = H ++ Heap.put J 0 x := put_app H J x 0
theorem obj_app (H J : Heap) (i : Nat) : Heap.obj (H ++ J) (H.length + i) = Heap.obj J i := by
 simp [Heap.obj, List.getElem?_append_right]
theorem obj_app0 (H J : Heap) : Heap.obj (H ++ J) H.length = Heap.obj J 0 := obj_app H J 0
end
def RetF {R : Type} (n : Nat) (k : KC R) (r : Option R) : Prop := ∀ fr H, fr.get n = .d (.b false) → ghosts fr = [] → k .ret fr H = r
theorem RetF_bl {R : Type} {n id : Nat} {k : KC R} {r : Option R} : RetF n (blK id k) r = RetF n k r := rfl
theorem RetF_sq {R : Type} {n : Nat} {E : Env} {base : Nat} {b : PC} {k : KC R} {r : Option R} : RetF n (sqK E base b k) r = RetF n k r := rfl
theorem RetF_fin {n : Nat} {E : Env} : RetF n (fin E [.t n]) (some (.d (.b false), false)) = True := by
 refine eq_true ?_
 intro fr H h1 h2
 rw [fin_ret h2, bo_rest, bo_res0, h1]
 rfl
end Go.Sim
end
section
namespace Go.Sim
section
variable {R : Type} {E : Env} {ρ : Rand → PV} {H : Heap} {id : Nat} {q : PV → Heap → Option R}
def eqbK (neg : Bool) (x y : PV) {q : PV → Option R} (_ : Hd q) : Option R := match x, y with
 | .d (.b a), .d (.b b) => q (.d (.b (if neg = true then !(a == b) else a == b)))
 | _, _ => none
theorem eqbK_b (neg a b : Bool) {q : PV → Option R} : eqbK neg (.d (.b a)) (.d (.b b)) (.h q) = q (.d (.b (if neg = true then !(a == b) else a == b))) := rfl
theorem b_eqb {neg : Bool} {x y : Rand} : bo2 (evalOp E ρ H id (.eqb neg x y)) (.h q) = eqbK neg (ρ x) (ρ y) (.h fun v => q v H) := by
 simp only [evalOp, eqbK]
 cases ρ x with
 | d v =>
  cases v with
  | b a =>
   cases ρ y with
   | d w => cases w <;> rfl
   | _ => rfl
  | _ => rfl
 | _ => rfl
end
end Go.Sim
end
section
namespace Go.Sim
section
variable {R α : Type} {E : Env} {fr : Fr} {H : Heap} {bf : List Nat} {acc : List (List Nat × List Nat)} {id : Nat} {j : KO R}
def nfp (x : α) {k : α → Option R} (_ : Hd k) : Option R := k x
theorem nfp_go (x : α) (k : α → Option R) : nfp x (.h k) = k x := rfl
def accD (bf : List Nat) (acc : List (List Nat × List Nat)) (W T : List Nat) : Bool × List (List Nat × List Nat) := (pairsD (bf.headD 0) 0 acc (W ++ T) W, acc ++ [(W ++ T, W)])
noncomputable def aftD (E : Env) (id : Nat) (fr : Fr) (H : Heap) (bf : List Nat) (acc : List (List Nat × List Nat)) (o : IOper) (fr' : Fr) (H' : Heap) {r : List IOper} {j : KO R} (_ : Hd (r, j)) : Option R :=
 nfp (accD bf acc (writeS E o id ⟨fr, H⟩ ⟨fr', H'⟩) (touchS E o ⟨fr, H⟩)) (.h fun w => chk (w.1 = true) (.h (kD E (nid o.op id) fr' H' bf.tail w.2 (.h (r, j)))))
theorem kDq_nil : kD E id fr H bf acc (.h ([], j)) = j fr H := rfl
theorem kD_cons (o : IOper) (r : List IOper) : kD E id fr H bf acc (.h (o :: r, j)) = match stepD E o id ⟨fr, H⟩ with | some s' => aftD E id fr H bf acc o s'.fr s'.H (.h (r, j)) | none => none := by
 simp only [kD, evalOpsD]
 cases stepD E o id ⟨fr, H⟩ with
 | none => rfl
 | some s' =>
  obtain ⟨f, h⟩ := s'
  by_cases hp : pairsD (bf.headD 0) 0 acc (writeS E o id ⟨fr, H⟩ ⟨f, h⟩ ++ touchS E o ⟨fr, H⟩) (writeS E o id ⟨fr, H⟩ ⟨f, h⟩) = true
  ·simp only [aftD, nfp, accD, chk, nid, hp, if_true, kD]
  ·simp only [aftD, nfp, accD, chk, hp, if_false, Bool.false_eq_true]
theorem kDq_O {d : Nat} {op : IOp} {r : List IOper} : kD E id fr H bf acc (.h (⟨some d, op, none⟩ :: r, j)) = bo2 (evalOpD E (rd E fr) H id op) (.h fun v H' => aftD E id fr H bf acc ⟨some d, op, none⟩ (fr.set d v) H' (.h (r, j))) := by
 rw [kD_cons]; simp only [stepD, bo2]
 cases evalOpD E (rd E fr) H id op <;> rfl
theorem kDq_E {op : IOp} {r : List IOper} : kD E id fr H bf acc (.h (⟨none, op, none⟩ :: r, j)) = bo2 (evalOpD E (rd E fr) H id op) (.h fun _ H' => aftD E id fr H bf acc ⟨none, op, none⟩ fr H' (.h (r, j))) := by
 rw [kD_cons]; simp only [stepD, bo2]
 cases evalOpD E (rd E fr) H id op <;> rfl
theorem kDq_OG {d t : Nat} {w : Bool} {op : IOp} {r : List IOper} : kD E id fr H bf acc (.h (⟨some d, op, some (t, w)⟩ :: r, j)) =
  grd (fr.get t) w (.h (bo2 (evalOpD E (rd E (fr.fix t w)) H id op) (.h fun v H' => aftD E id (fr.fix t w) H bf acc ⟨some d, op, some (t, w)⟩ ((fr.fix t w).set d v) H' (.h (r, j))), aftD E id (fr.fix t (!w)) H bf acc ⟨some d, op, some (t, w)⟩ ((fr.fix t (!w)).set d (.t [])) H (.h (r, j)), aftD E id fr H bf acc ⟨some d, op, some (t, w)⟩ (fr.set d (.t [])) H (.h (r, j)))) := by
 rw [kD_cons]; simp only [stepD]
 cases h : fr.get t with
 | d v =>
  cases v with
  | b b =>
   by_cases hb : b = w
   ·subst hb
    rw [fix_eq h]
    simp only [grd, beq_self_eq_true, if_true, bo2]
    cases evalOpD E (rd E fr) H id op <;> rfl
   ·have e : (b == w) = false := by simpa using hb
    have e2 : b = !w := by cases b <;> cases w <;> simp_all
    have hf : fr.fix t (!w) = fr := fix_eq (by rw [h, e2])
    simp only [grd, e, if_neg hb, Bool.false_eq_true, if_false, hf]
  | _ => rfl
 | t vs => cases vs <;> rfl
 | _ => rfl
theorem kDq_EG {t : Nat} {w : Bool} {op : IOp} {r : List IOper} : kD E id fr H bf acc (.h (⟨none, op, some (t, w)⟩ :: r, j)) =
  grd (fr.get t) w (.h (bo2 (evalOpD E (rd E (fr.fix t w)) H id op) (.h fun _ H' => aftD E id (fr.fix t w) H bf acc ⟨none, op, some (t, w)⟩ (fr.fix t w) H' (.h (r, j))), aftD E id (fr.fix t (!w)) H bf acc ⟨none, op, some (t, w)⟩ (fr.fix t (!w)) H (.h (r, j)), aftD E id fr H bf acc ⟨none, op, some (t, w)⟩ fr H (.h (r, j)))) := by
 rw [kD_cons]; simp only [stepD]
 cases h : fr.get t with
 | d v =>
  cases v with
  | b b =>
   by_cases hb : b = w
   ·subst hb
    rw [fix_eq h]
    simp only [grd, beq_self_eq_true, if_true, bo2]
    cases evalOpD E (rd E fr) H id op <;> rfl
   ·have e : (b == w) = false := by simpa using hb
    have e2 : b = !w := by cases b <;> cases w <;> simp_all
    have hf : fr.fix t (!w) = fr := fix_eq (by rw [h, e2])
    simp only [grd, e, if_neg hb, Bool.false_eq_true, if_false, hf]
  | _ => rfl
 | t vs => cases vs <;> rfl
 | _ => rfl
theorem aftD_go {o : IOper} {fr' : Fr} {H' : Heap} {r : List IOper} : aftD E id fr H bf acc o fr' H' (.h (r, j)) = nfp (accD bf acc (writeS E o id ⟨fr, H⟩ ⟨fr', H'⟩) (touchS E o ⟨fr, H⟩)) (.h fun w => chk (w.1 = true) (.h (kD E (nid o.op id) fr' H' bf.tail w.2 (.h (r, j))))) := rfl
theorem d_mov {ρ : Rand → PV} {k : PV → Heap → Option R} {x : Rand} : bo2 (evalOpD E ρ H id (.mov x)) (.h k) = bo2 (evalOp E ρ H id (.mov x)) (.h k) := rfl
theorem d_pick {ρ : Rand → PV} {k : PV → Heap → Option R} {cx a b : Rand} : bo2 (evalOpD E ρ H id (.pick cx a b)) (.h k) = bo2 (evalOp E ρ H id (.pick cx a b)) (.h k) := rfl
theorem d_alloc {ρ : Rand → PV} {k : PV → Heap → Option R} {kx : Sim.K} {z : DV} : bo2 (evalOpD E ρ H id (.alloc kx z)) (.h k) = bo2 (evalOp E ρ H id (.alloc kx z)) (.h k) := rfl
theorem d_box {ρ : Rand → PV} {k : PV → Heap → Option R} {kx : Sim.K} {x : Rand} : bo2 (evalOpD E ρ H id (.box kx x)) (.h k) = bo2 (evalOp E ρ H id (.box kx x)) (.h k) := rfl
theorem d_agg {ρ : Rand → PV} {k : PV → Heap → Option R} {z : List DV} {parts : List (Nat × Sim.K × Rand)} : bo2 (evalOpD E ρ H id (.agg z parts)) (.h k) = bo2 (evalOp E ρ H id (.agg z parts)) (.h k) := rfl
theorem d_bsl {ρ : Rand → PV} {k : PV → Heap → Option R} {kx : Sim.K} {z : DV} {len : Nat} {parts : List (Nat × Rand)} : bo2 (evalOpD E ρ H id (.bsl kx z len parts)) (.h k) = bo2 (evalOp E ρ H id (.bsl kx z len parts)) (.h k) := rfl
theorem d_load {ρ : Rand → PV} {k : PV → Heap → Option R} {kx : Sim.K} {x : Rand} : bo2 (evalOpD E ρ H id (.load kx x)) (.h k) = bo2 (evalOp E ρ H id (.load kx x)) (.h k) := rfl
theorem d_store {ρ : Rand → PV} {k : PV → Heap → Option R} {kx : Sim.K} {x y : Rand} : bo2 (evalOpD E ρ H id (.store kx x y)) (.h k) = bo2 (evalOp E ρ H id (.store kx x y)) (.h k) := rfl
theorem d_bin {ρ : Rand → PV} {k : PV → Heap → Option R} {op : BinOp} {x y : Rand} : bo2 (evalOpD E ρ H id (.bin op x y)) (.h k) = bo2 (evalOp E ρ H id (.bin op x y)) (.h k) := rfl
theorem d_eqv {ρ : Rand → PV} {k : PV → Heap → Option R} {neg : Bool} {ks : List Nat} {x y : Rand} : bo2 (evalOpD E ρ H id (.eqv neg ks x y)) (.h k) = bo2 (evalOp E ρ H id (.eqv neg ks x y)) (.h k) := rfl
theorem d_eqb {ρ : Rand → PV} {k : PV → Heap → Option R} {neg : Bool} {x y : Rand} : bo2 (evalOpD E ρ H id (.eqb neg x y)) (.h k) = bo2 (evalOp E ρ H id (.eqb neg x y)) (.h k) := rfl
theorem d_isnil {ρ : Rand → PV} {k : PV → Heap → Option R} {neg : Bool} {kd : Nat} {x : Rand} : bo2 (evalOpD E ρ H id (.isnil neg kd x)) (.h k) = bo2 (evalOp E ρ H id (.isnil neg kd x)) (.h k) := rfl
theorem d_un {ρ : Rand → PV} {k : PV → Heap → Option R} {op : UnOp} {x : Rand} : bo2 (evalOpD E ρ H id (.un op x)) (.h k) = bo2 (evalOp E ρ H id (.un op x)) (.h k) := rfl
theorem d_conv {ρ : Rand → PV} {k : PV → Heap → Option R} {kx : IntKind} {x : Rand} : bo2 (evalOpD E ρ H id (.conv kx x)) (.h k) = bo2 (evalOp E ρ H id (.conv kx x)) (.h k) := rfl
theorem d_slS {ρ : Rand → PV} {k : PV → Heap → Option R} {x : Rand} {lo hi : Option Rand} : bo2 (evalOpD E ρ H id (.slS x lo hi)) (.h k) = bo2 (evalOp E ρ H id (.slS x lo hi)) (.h k) := rfl
theorem d_sl {ρ : Rand → PV} {k : PV → Heap → Option R} {kx : Sim.K} {x : Rand} {lo hi mx : Option Rand} : bo2 (evalOpD E ρ H id (.sl kx x lo hi mx)) (.h k) = bo2 (evalOp E ρ H id (.sl kx x lo hi mx)) (.h k) := rfl
theorem d_faddr {ρ : Rand → PV} {k : PV → Heap → Option R} {off : Nat} {x : Rand} : bo2 (evalOpD E ρ H id (.faddr off x)) (.h k) = bo2 (evalOp E ρ H id (.faddr off x)) (.h k) := rfl
theorem d_field {ρ : Rand → PV} {k : PV → Heap → Option R} {off : Nat} {kx : Sim.K} {x : Rand} : bo2 (evalOpD E ρ H id (.field off kx x)) (.h k) = bo2 (evalOp E ρ H id (.field off kx x)) (.h k) := rfl
theorem d_iaddr {ρ : Rand → PV} {k : PV → Heap → Option R} {kx : Sim.K} {x i : Rand} : bo2 (evalOpD E ρ H id (.iaddr kx x i)) (.h k) = bo2 (evalOp E ρ H id (.iaddr kx x i)) (.h k) := rfl
theorem d_iaddrA {ρ : Rand → PV} {k : PV → Heap → Option R} {len : Nat} {kx : Sim.K} {x i : Rand} : bo2 (evalOpD E ρ H id (.iaddrA len kx x i)) (.h k) = bo2 (evalOp E ρ H id (.iaddrA len kx x i)) (.h k) := rfl
theorem d_idxS {ρ : Rand → PV} {k : PV → Heap → Option R} {x i : Rand} : bo2 (evalOpD E ρ H id (.idxS x i)) (.h k) = bo2 (evalOp E ρ H id (.idxS x i)) (.h k) := rfl
theorem d_idxA {ρ : Rand → PV} {k : PV → Heap → Option R} {len : Nat} {kx : Sim.K} {x i : Rand} : bo2 (evalOpD E ρ H id (.idxA len kx x i)) (.h k) = bo2 (evalOp E ρ H id (.idxA len kx x i)) (.h k) := rfl
theorem d_len {ρ : Rand → PV} {k : PV → Heap → Option R} {str : Bool} {x : Rand} : bo2 (evalOpD E ρ H id (.len str x)) (.h k) = bo2 (evalOp E ρ H id (.len str x)) (.h k) := rfl
theorem d_ext {ρ : Rand → PV} {k : PV → Heap → Option R} {x : Rand} {i : Nat} : bo2 (evalOpD E ρ H id (.ext x i)) (.h k) = bo2 (evalOp E ρ H id (.ext x i)) (.h k) := rfl
theorem d_mkf {ρ : Rand → PV} {k : PV → Heap → Option R} {f : Nat} {caps : List Rand} : bo2 (evalOpD E ρ H id (.mkf f caps)) (.h k) = bo2 (evalOp E ρ H id (.mkf f caps)) (.h k) := rfl
theorem d_mkm {ρ : Rand → PV} {k : PV → Heap → Option R} {f : Nat} {caps : List Rand} : bo2 (evalOpD E ρ H id (.mkm f caps)) (.h k) = bo2 (evalOp E ρ H id (.mkm f caps)) (.h k) := rfl
theorem d_prim {ρ : Rand → PV} {k : PV → Heap → Option R} {p : Nat} {args : List Rand} : bo2 (evalOpD E ρ H id (.prim p args)) (.h k) = bo2 (evalOp E ρ H id (.prim p args)) (.h k) := rfl
theorem d_nilck {ρ : Rand → PV} {k : PV → Heap → Option R} {x : Rand} : bo2 (evalOpD E ρ H id (.nilck x)) (.h k) = bo2 (evalOp E ρ H id (.nilck x)) (.h k) := rfl
theorem d_mksl {ρ : Rand → PV} {k : PV → Heap → Option R} {kx : Sim.K} {bytes : Nat} {z : DV} {len cap : Rand} : bo2 (evalOpD E ρ H id (.mksl kx bytes z len cap)) (.h k) = bo2 (evalOp E ρ H id (.mksl kx bytes z len cap)) (.h k) := rfl
theorem d_minmax {ρ : Rand → PV} {k : PV → Heap → Option R} {mx : Bool} {args : List Rand} : bo2 (evalOpD E ρ H id (.minmax mx args)) (.h k) = bo2 (evalOp E ρ H id (.minmax mx args)) (.h k) := rfl
theorem d_mkif {ρ : Rand → PV} {k : PV → Heap → Option R} {t : Nat} {x : Rand} : bo2 (evalOpD E ρ H id (.mkif t x)) (.h k) = bo2 (evalOp E ρ H id (.mkif t x)) (.h k) := rfl
theorem d_tas {ρ : Rand → PV} {k : PV → Heap → Option R} {t : Nat} {z : DV} {ok : Bool} {x : Rand} : bo2 (evalOpD E ρ H id (.tas t z ok x)) (.h k) = bo2 (evalOp E ρ H id (.tas t z ok x)) (.h k) := rfl
theorem d_call0 {ρ : Rand → PV} {k : PV → Heap → Option R} {f : Nat} {args : List Rand} : bo2 (evalOpD E ρ H id (.call 0 f args)) (.h k) = bo2 (evalOp E ρ H id (.call 0 f args)) (.h k) := rfl
theorem d_call1 {ρ : Rand → PV} {k : PV → Heap → Option R} {f : Nat} {args : List Rand} : bo2 (evalOpD E ρ H id (.call 1 f args)) (.h k) = bo2 (evalOp E ρ H id (.call 1 f args)) (.h k) := rfl
end
end Go.Sim
end
section
namespace Go.Sim
theorem fits_i (k : IntKind) (n : Int) : fits none (.d (.i k n)) = true := rfl
theorem fits_b (b : Bool) : fits none (.d (.b b)) = true := rfl
theorem fits_s (l : List UInt8) : fits none (.d (.s l)) = true := rfl
theorem fits_l (k : K) (l : List DV) (t : Bool) : fits none (.d (.l k l t)) = true := rfl
theorem fits_a (n : Nat) (l : List DV) : fits (some n) (.d (.a l)) = (l.length == n) := rfl
theorem purT_t {H : Heap} {vs : List PV} : purT H (.t vs) = match purs H vs with | some (xs, _) => some (.t (xs.map .d), false) | none => none := rfl
theorem lt0_nat (j : Nat) : ((j : Int) < 0) = False := by simp
section
variable {R : Type} {E : Env} {ρ : Rand → PV} {H : Heap} {id : Nat} {q : PV → Heap → Option R}
theorem plains_d : ∀ z : List DV, plains (z.map .d) = some z
 | [] => rfl
 | x :: z => by simp [plains, plains_d z]
theorem b_agg0 {z : List DV} : bo2 (evalOp E ρ H id (.agg z [])) (.h q) = q (.d (.a z)) H := by
 simp only [evalOp, List.map_nil, aggA, mkA, plains_d]; rfl
end
end Go.Sim
end
section
namespace Go.Sim
section
variable {R : Type} {E : Env} {ρ : Rand → PV} {H : Heap} {id : Nat} {q : PV → Heap → Option R} {k : K} {b : Nat}
theorem pur_dv (v : DV) : pur H (.d v) = some (v, []) := rfl
theorem frz_n : frz H [] = H := rfl
theorem b_bsl0 {z : DV} : bo2 (evalOp E ρ H id (.bsl k z 0 [])) (.h q) = q (.r id k 0 0 true) (H.put id (some (.sl k 0 []))) := rfl
theorem b_bsl1 {z : DV} {r : Rand} : bo2 (evalOp E ρ H id (.bsl k z 1 [(0, r)])) (.h q) = chk (fits k (ρ r) = true) (.h (bo (pur H (ρ r)) (.h fun p => q (.r id k 0 1 true) ((frz H p.2).put id (some (.sl k 0 [p.1])))))) := by
 simp only [evalOp, List.map_cons, List.map_nil, bslA, chk]
 by_cases h : fits k (ρ r) = true
 ·simp only [h, if_true, Bool.true_and]
  cases pur H (ρ r) with
  | none => simp [bo, bo2]
  | some p => obtain ⟨x, os⟩ := p; simp [bo, bo2]
 ·simp [h, bo2]
def appE (H : Heap) (id : Nat) (k : K) (bytes : Nat) (x : PV) (ys : List DV) : Option (PV × Heap) := appA H id k bytes x (.d (.l k ys true))
theorem app_l {x : PV} {k' : K} {ys : List DV} {t : Bool} : bo2 (appA H id k b x (.d (.l k' ys t))) (.h q) = chk ((K.eq k k' || ys.isEmpty) = true) (.h (bo2 (appE H id k b x ys) (.h q))) := by
 simp only [appA, appE, elemsA, chk, K_refl, Bool.true_or, if_true]
 by_cases h : (K.eq k k' || ys.isEmpty) = true
 ·simp only [h, if_true]
 ·simp only [h, if_false, Bool.false_eq_true]; rfl
theorem app_r {x : PV} {o off len : Nat} {k' : K} {t : Bool} : bo2 (appA H id k b x (.r o k' off len t)) (.h q) = match H.obj o with | some (.sl k'' _ es) => chk ((K.eq k k' && K.eq k k'' && decide (off + len ≤ es.length)) = true) (.h (bo2 (appE H id k b x ((es.drop off).take len)) (.h q))) | _ => none := by
 simp only [appA, appE, elemsA]
 cases H.obj o with
 | none => rfl
 | some y =>
  cases y with
  | sl k'' ro es =>
   simp only [chk]
   by_cases h : (K.eq k k' && K.eq k k'' && decide (off + len ≤ es.length)) = true
   ·simp only [h, if_true, K_refl, Bool.true_or]
   ·simp only [h, if_false, Bool.false_eq_true]; rfl
  | _ => rfl
theorem appE_n {k' : K} {ys : List DV} : bo2 (appE H id k b (.d (.l k' [] true)) ys) (.h q) = chk (ys.length * b ≤ 2 ^ 47) (.h (q (.r id k 0 ys.length false) (H.put id (some (.sl k 0 ys))))) := by
 simp only [appE, appA, elemsA, K_refl, Bool.true_or, if_true, chk, List.length_nil, Nat.zero_add]
 by_cases h : ys.length * b ≤ 2 ^ 47
 ·simp only [h, if_true]; rfl
 ·simp only [h, if_false]; rfl
theorem appE_r {o off len : Nat} {k' : K} {t : Bool} {y : DV} {ys : List DV} : bo2 (appE H id k b (.r o k' off len t) (y :: ys)) (.h q) = match H.obj o with
  | some (.sl k'' ro es) => chk ((K.eq k k' && K.eq k k'' && decide (off + len ≤ es.length) && decide ((len + (ys.length + 1)) * b ≤ 2 ^ 47)) = true) (.h (brn t (.h (q (.r id k 0 (len + (ys.length + 1)) false) (H.put id (some (.sl k 0 ((es.drop off).take len ++ y :: ys)))), chk (ro ≤ off + len) (.h (q (.r id k 0 (len + (ys.length + 1)) false) ((H.put o none).put id (some (.sl k (ro - off) ((es.drop off).take len ++ y :: ys))))))))))
  | _ => none := by
 simp only [appE, appA, elemsA, K_refl, Bool.true_or, if_true, List.length_cons]
 cases H.obj o with
 | none => rfl
 | some w =>
  cases w with
  | sl k'' ro es =>
   simp only [chk]
   by_cases h : (K.eq k k' && K.eq k k'' && decide (off + len ≤ es.length) && decide ((len + (ys.length + 1)) * b ≤ 2 ^ 47)) = true
   ·simp only [h, if_true]
    cases t with
    | true => rfl
    | false =>
     simp only [Bool.false_eq_true, if_false, brn]
     by_cases g : ro ≤ off + len
     ·simp only [g, if_true]; rfl
     ·simp only [g, if_false]; rfl
   ·simp only [h, if_false, Bool.false_eq_true]; rfl
  | _ => rfl
def mkifK (t : Nat) (x : PV) (H : Heap) {q : PV → Heap → Option R} (_ : Hd q) : Option R := match pur H x with
 | some (v, os) => q (.d (.ifc t v)) (frz H os)
 | none => q (.w t x) H
theorem mkifK_d {t : Nat} {v : DV} : mkifK t (.d v) H (.h q) = q (.d (.ifc t v)) H := rfl
theorem b_mkif {t : Nat} {x : Rand} : bo2 (evalOp E ρ H id (.mkif t x)) (.h q) = mkifK t (ρ x) H (.h q) := by
 simp only [evalOp, mkifK]
 cases pur H (ρ x) with
 | none => rfl
 | some p => rfl
def tasK (t : Nat) (z : DV) (ok : Bool) (x : PV) {q : PV → Option R} (_ : Hd q) : Option R := match x with
 | .d (.ifc u v) => if u = t then q (if ok then .t [.d v, .d (.b true)] else .d v) else if ok then q (.t [.d z, .d (.b false)]) else none
 | .w u v => if u = t then q (if ok then .t [v, .d (.b true)] else v) else if ok then q (.t [.d z, .d (.b false)]) else none
 | .d .ni => if ok then q (.t [.d z, .d (.b false)]) else none
 | _ => none
theorem tasK_i {t u : Nat} {z v : DV} {ok : Bool} {q : PV → Option R} : tasK t z ok (.d (.ifc u v)) (.h q) = if u = t then q (if ok then .t [.d v, .d (.b true)] else .d v) else if ok then q (.t [.d z, .d (.b false)]) else none := rfl
theorem b_tas {t : Nat} {z : DV} {ok : Bool} {x : Rand} : bo2 (evalOp E ρ H id (.tas t z ok x)) (.h q) = tasK t z ok (ρ x) (.h fun v => q v H) := by
 simp only [evalOp, tasK]
 cases ρ x with
 | d v =>
  cases v with
  | ifc u w => by_cases h : u = t <;> cases ok <;> simp [h, bo2]
  | ni => cases ok <;> rfl
  | _ => rfl
 | w u v => by_cases h : u = t <;> cases ok <;> simp [h, bo2]
 | _ => rfl
theorem size_n : K.size none = 1 := rfl
theorem size_s (n : Nat) : K.size (some n) = n := rfl
theorem b_mm2 {mx : Bool} {x y : Rand} : bo2 (evalOp E ρ H id (.minmax mx [x, y])) (.h q) = bo (mm2 mx (ρ x) (ρ y)) (.h fun v => q v H) := by
 simp only [evalOp, List.map_cons, List.map_nil, mmA]
 cases mm2 mx (ρ x) (ρ y) <;> rfl
theorem bo_mm2 {k : IntKind} {a b : Int} {y : PV → Option R} : bo (mm2 true (.d (.i k a)) (.d (.i k b))) (.h y) = y (.d (.i k (max a b))) := by
 have h : (if b > a then b else a) = max a b := by rw [Int.max_def]; split <;> split <;> omega
 simp only [mm2, if_true, h]
 rfl
theorem purT_f {t : Nat} {v : DV} : purT H (.d (.ifc t v)) = some (.d (.ifc t v), false) := rfl
theorem purT_r {o off len : Nat} {k : K} {t : Bool} : purT H (.r o k off len t) = match H.obj o with
  | some (.sl k' ro es) => if k' = k ∧ off + len ≤ es.length then some (.d (.l k ((es.drop off).take len) false), decide (ro ≤ off)) else none
  | _ => none := rfl
theorem bo_lenR {o off len : Nat} {k : K} {t : Bool} {y : Nat → Option R} : bo (lenA H false (.r o k off len t)) (.h y) = match H.obj o with
  | some (.sl _ _ es) => chk (off + len ≤ es.length) (.h (y len))
  | _ => none := by
 simp only [lenA, Bool.false_eq_true, if_false]
 cases H.obj o with
 | none => rfl
 | some w =>
  cases w with
  | sl k' ro es =>
   simp only [chk]
   by_cases h : off + len ≤ es.length
   ·simp only [h, if_true]; rfl
   ·simp only [h, if_false]; rfl
  | _ => rfl
end
end Go.Sim
end
section
namespace Go.Sim
section
variable {R : Type} {E : Env} {base : Nat} {fr : Fr} {H : Heap} {k : KC R}
noncomputable def rngK (E : Env) (a x : PC) (fr : Fr) (o : Nat) (ps : List Nat) : Nat → List PV → Heap → Option (PV × Heap) := rngY (fun b s => evalC E lpI b a s) (fun b s => evalC E lpI b x s) fr o ps E.yld
def rngE (k : KC R) (fr : Fr) (g o : Nat) (H : Heap) : Option R := match H.obj o with
 | some (.lp 0 none) => k .norm (fr.set g (.g (.h (o + 1)))) (H.put o none)
 | some (.lp 1 (some e)) => k e (fr.set g (.g (.h (o + 1)))) (H.put o none)
 | _ => none
noncomputable def rngS (E : Env) (fr : Fr) (H : Heap) (a x : PC) (live ps : List Nat) (g : Nat) (v w : PV) {k : KC R} (_ : Hd k) : Option R := match v, w with
 | .f n caps, .u => bo (E.it (rngK E a x (Fr.only live fr) H.length ps) n (.h H.length :: caps) (H ++ [some (.lp 0 none), some .df])) (.h fun p => rngE k fr g H.length p.2)
 | _, _ => none
end
end Go.Sim
end
section
namespace Go.Sim
section
variable {R : Type} {E : Env} {ρ : Rand → PV} {H : Heap} {id : Nat} {q : PV → Heap → Option R} {base : Nat}
theorem bo_asI {kk : IntKind} {n : Int} {y : Int → Option R} : bo (asI (.d (.i kk n))) (.h y) = y n := rfl
theorem b_mksl {k : Sim.K} {b : Nat} {z : DV} {len cap : Rand} : bo2 (evalOp E ρ H id (.mksl k b z len cap)) (.h q) = bo (asI (ρ len)) (.h fun (n : Int) => bo (asI (ρ cap)) (.h fun (c : Int) => chk (0 ≤ n ∧ n ≤ c ∧ c * b ≤ 2 ^ 47) (.h (q (.r id k 0 n.toNat false) (H.put id (some (.sl k 0 (List.replicate n.toNat z)))))))) := by
 simp only [evalOp]
 cases asI (ρ len) with
 | none => rfl
 | some n =>
  cases asI (ρ cap) with
  | none => rfl
  | some c => simp only [bo, chk]; split <;> rfl
end
end Go.Sim
end
section
namespace Go.Sim
structure SL (α : Type) where
 l : List α
 t : Bool
structure AWide where
 Hi : Int
 Lo : Int
def AWide.cells (x : AWide) : List DV := [I x.Hi, .i .u64 x.Lo]
def AWide.dv (x : AWide) : DV := .a [I x.Hi, .i .u64 x.Lo]
@[simp] theorem AWide.fits (x : AWide) : Sim.fits (K1 2) (.d (AWide.dv x)) = true := rfl
@[simp] theorem AWide.purT (x : AWide) (H : Heap) : Sim.purT H (.d (AWide.dv x)) = some (.d (AWide.dv x), false) := rfl
@[simp] theorem AWide.clen (x : AWide) : (AWide.dv x).cells.length = 2 := rfl
@[simp] theorem AWide.aof (x : AWide) : DV.a (AWide.cells x) = AWide.dv x := rfl
@[simp] theorem AWide.ccl (x : AWide) : (AWide.cells x).length = 2 := rfl
@[simp] theorem AWide.c0 (x : AWide) : (AWide.dv x).cells[0]? = some (I x.Hi) := rfl
@[simp] theorem AWide.c1 (x : AWide) : (AWide.dv x).cells[1]? = some (.i .u64 x.Lo) := rfl
structure ACurrency where
 Code : List UInt8
 Digits : Int
def ACurrency.cells (x : ACurrency) : List DV := [.s x.Code, I x.Digits]
def ACurrency.dv (x : ACurrency) : DV := .a [.s x.Code, I x.Digits]
@[simp] theorem ACurrency.fits (x : ACurrency) : Sim.fits (K1 2) (.d (ACurrency.dv x)) = true := rfl
@[simp] theorem ACurrency.purT (x : ACurrency) (H : Heap) : Sim.purT H (.d (ACurrency.dv x)) = some (.d (ACurrency.dv x), false) := rfl
@[simp] theorem ACurrency.clen (x : ACurrency) : (ACurrency.dv x).cells.length = 2 := rfl
@[simp] theorem ACurrency.aof (x : ACurrency) : DV.a (ACurrency.cells x) = ACurrency.dv x := rfl
@[simp] theorem ACurrency.ccl (x : ACurrency) : (ACurrency.cells x).length = 2 := rfl
@[simp] theorem ACurrency.c0 (x : ACurrency) : (ACurrency.dv x).cells[0]? = some (.s x.Code) := rfl
@[simp] theorem ACurrency.c1 (x : ACurrency) : (ACurrency.dv x).cells[1]? = some (I x.Digits) := rfl
structure ACalendar where
 Name : List UInt8
 Weekend : SL Int
 Holidays : SL Int
def ACalendar.cells (x : ACalendar) : List DV := [.s x.Name, .l K0 (x.Weekend.l.map I) x.Weekend.t, .l K0 (x.Holidays.l.map I) x.Holidays.t]
def ACalendar.dv (x : ACalendar) : DV := .a [.s x.Name, .l K0 (x.Weekend.l.map I) x.Weekend.t, .l K0 (x.Holidays.l.map I) x.Holidays.t]
@[simp] theorem ACalendar.fits (x : ACalendar) : Sim.fits (K1 3) (.d (ACalendar.dv x)) = true := rfl
@[simp] theorem ACalendar.purT (x : ACalendar) (H : Heap) : Sim.purT H (.d (ACalendar.dv x)) = some (.d (ACalendar.dv x), false) := rfl
@[simp] theorem ACalendar.clen (x : ACalendar) : (ACalendar.dv x).cells.length = 3 := rfl
@[simp] theorem ACalendar.aof (x : ACalendar) : DV.a (ACalendar.cells x) = ACalendar.dv x := rfl
@[simp] theorem ACalendar.ccl (x : ACalendar) : (ACalendar.cells x).length = 3 := rfl
@[simp] theorem ACalendar.c0 (x : ACalendar) : (ACalendar.dv x).cells[0]? = some (.s x.Name) := rfl
@[simp] theorem ACalendar.c1 (x : ACalendar) : (ACalendar.dv x).cells[1]? = some (.l K0 (x.Weekend.l.map I) x.Weekend.t) := rfl
@[simp] theorem ACalendar.c2 (x : ACalendar) : (ACalendar.dv x).cells[2]? = some (.l K0 (x.Holidays.l.map I) x.Holidays.t) := rfl
structure ATier where
 From : Int
 Ppm : Int
def ATier.cells (x : ATier) : List DV := [I x.From, I x.Ppm]
def ATier.dv (x : ATier) : DV := .a [I x.From, I x.Ppm]
@[simp] theorem ATier.fits (x : ATier) : Sim.fits (K1 2) (.d (ATier.dv x)) = true := rfl
@[simp] theorem ATier.purT (x : ATier) (H : Heap) : Sim.purT H (.d (ATier.dv x)) = some (.d (ATier.dv x), false) := rfl
@[simp] theorem ATier.clen (x : ATier) : (ATier.dv x).cells.length = 2 := rfl
@[simp] theorem ATier.aof (x : ATier) : DV.a (ATier.cells x) = ATier.dv x := rfl
@[simp] theorem ATier.ccl (x : ATier) : (ATier.cells x).length = 2 := rfl
@[simp] theorem ATier.c0 (x : ATier) : (ATier.dv x).cells[0]? = some (I x.From) := rfl
@[simp] theorem ATier.c1 (x : ATier) : (ATier.dv x).cells[1]? = some (I x.Ppm) := rfl
structure AInterest where
 Tiers : SL ATier
 Marginal : Bool
 Basis : Int
 Mode : Int
 Keep : Bool
def AInterest.cells (x : AInterest) : List DV := [.l (K1 2) (x.Tiers.l.map ATier.dv) x.Tiers.t, .b x.Marginal, I x.Basis, I x.Mode, .b x.Keep]
def AInterest.dv (x : AInterest) : DV := .a [.l (K1 2) (x.Tiers.l.map ATier.dv) x.Tiers.t, .b x.Marginal, I x.Basis, I x.Mode, .b x.Keep]
@[simp] theorem AInterest.fits (x : AInterest) : Sim.fits (K1 5) (.d (AInterest.dv x)) = true := rfl
@[simp] theorem AInterest.purT (x : AInterest) (H : Heap) : Sim.purT H (.d (AInterest.dv x)) = some (.d (AInterest.dv x), false) := rfl
@[simp] theorem AInterest.clen (x : AInterest) : (AInterest.dv x).cells.length = 5 := rfl
@[simp] theorem AInterest.aof (x : AInterest) : DV.a (AInterest.cells x) = AInterest.dv x := rfl
@[simp] theorem AInterest.ccl (x : AInterest) : (AInterest.cells x).length = 5 := rfl
@[simp] theorem AInterest.c0 (x : AInterest) : (AInterest.dv x).cells[0]? = some (.l (K1 2) (x.Tiers.l.map ATier.dv) x.Tiers.t) := rfl
@[simp] theorem AInterest.c1 (x : AInterest) : (AInterest.dv x).cells[1]? = some (.b x.Marginal) := rfl
@[simp] theorem AInterest.c2 (x : AInterest) : (AInterest.dv x).cells[2]? = some (I x.Basis) := rfl
@[simp] theorem AInterest.c3 (x : AInterest) : (AInterest.dv x).cells[3]? = some (I x.Mode) := rfl
@[simp] theorem AInterest.c4 (x : AInterest) : (AInterest.dv x).cells[4]? = some (.b x.Keep) := rfl
structure AExpr where
 (Op N : Int)
 S : List UInt8
 Args : SL DV
def AExpr.cells (x : AExpr) : List DV := [I x.Op, I x.N, .s x.S, .l (K1 4) x.Args.l x.Args.t]
def AExpr.dv (x : AExpr) : DV := .a [I x.Op, I x.N, .s x.S, .l (K1 4) x.Args.l x.Args.t]
@[simp] theorem AExpr.fits (x : AExpr) : Sim.fits (K1 4) (.d (AExpr.dv x)) = true := rfl
@[simp] theorem AExpr.purT (x : AExpr) (H : Heap) : Sim.purT H (.d (AExpr.dv x)) = some (.d (AExpr.dv x), false) := rfl
@[simp] theorem AExpr.clen (x : AExpr) : (AExpr.dv x).cells.length = 4 := rfl
@[simp] theorem AExpr.aof (x : AExpr) : DV.a (AExpr.cells x) = AExpr.dv x := rfl
@[simp] theorem AExpr.ccl (x : AExpr) : (AExpr.cells x).length = 4 := rfl
@[simp] theorem AExpr.c0 (x : AExpr) : (AExpr.dv x).cells[0]? = some (I x.Op) := rfl
@[simp] theorem AExpr.c1 (x : AExpr) : (AExpr.dv x).cells[1]? = some (I x.N) := rfl
@[simp] theorem AExpr.c2 (x : AExpr) : (AExpr.dv x).cells[2]? = some (.s x.S) := rfl
@[simp] theorem AExpr.c3 (x : AExpr) : (AExpr.dv x).cells[3]? = some (.l (K1 4) x.Args.l x.Args.t) := rfl
structure AFee where
 Name : List UInt8
 Event : Int
 When : AExpr
 Amount : AExpr
def AFee.cells (x : AFee) : List DV := [.s x.Name, I x.Event, I x.When.Op, I x.When.N, .s x.When.S, .l (K1 4) x.When.Args.l x.When.Args.t, I x.Amount.Op, I x.Amount.N, .s x.Amount.S, .l (K1 4) x.Amount.Args.l x.Amount.Args.t]
def AFee.dv (x : AFee) : DV := .a [.s x.Name, I x.Event, I x.When.Op, I x.When.N, .s x.When.S, .l (K1 4) x.When.Args.l x.When.Args.t, I x.Amount.Op, I x.Amount.N, .s x.Amount.S, .l (K1 4) x.Amount.Args.l x.Amount.Args.t]
@[simp] theorem AFee.fits (x : AFee) : Sim.fits (K1 10) (.d (AFee.dv x)) = true := rfl
@[simp] theorem AFee.purT (x : AFee) (H : Heap) : Sim.purT H (.d (AFee.dv x)) = some (.d (AFee.dv x), false) := rfl
@[simp] theorem AFee.clen (x : AFee) : (AFee.dv x).cells.length = 10 := rfl
@[simp] theorem AFee.aof (x : AFee) : DV.a (AFee.cells x) = AFee.dv x := rfl
@[simp] theorem AFee.ccl (x : AFee) : (AFee.cells x).length = 10 := rfl
@[simp] theorem AFee.n2_4 (x : AFee) : ((AFee.dv x).cells.drop 2).take 4 = AExpr.cells x.When := rfl
@[simp] theorem AFee.n6_4 (x : AFee) : ((AFee.dv x).cells.drop 6).take 4 = AExpr.cells x.Amount := rfl
@[simp] theorem AFee.c0 (x : AFee) : (AFee.dv x).cells[0]? = some (.s x.Name) := rfl
@[simp] theorem AFee.c1 (x : AFee) : (AFee.dv x).cells[1]? = some (I x.Event) := rfl
@[simp] theorem AFee.c2 (x : AFee) : (AFee.dv x).cells[2]? = some (I x.When.Op) := rfl
@[simp] theorem AFee.c3 (x : AFee) : (AFee.dv x).cells[3]? = some (I x.When.N) := rfl
@[simp] theorem AFee.c4 (x : AFee) : (AFee.dv x).cells[4]? = some (.s x.When.S) := rfl
@[simp] theorem AFee.c5 (x : AFee) : (AFee.dv x).cells[5]? = some (.l (K1 4) x.When.Args.l x.When.Args.t) := rfl
@[simp] theorem AFee.c6 (x : AFee) : (AFee.dv x).cells[6]? = some (I x.Amount.Op) := rfl
@[simp] theorem AFee.c7 (x : AFee) : (AFee.dv x).cells[7]? = some (I x.Amount.N) := rfl
@[simp] theorem AFee.c8 (x : AFee) : (AFee.dv x).cells[8]? = some (.s x.Amount.S) := rfl
@[simp] theorem AFee.c9 (x : AFee) : (AFee.dv x).cells[9]? = some (.l (K1 4) x.Amount.Args.l x.Amount.Args.t) := rfl
structure ARule where
 Name : List UInt8
 Window : Int
 Amount : AExpr
def ARule.cells (x : ARule) : List DV := [.s x.Name, I x.Window, I x.Amount.Op, I x.Amount.N, .s x.Amount.S, .l (K1 4) x.Amount.Args.l x.Amount.Args.t]
def ARule.dv (x : ARule) : DV := .a [.s x.Name, I x.Window, I x.Amount.Op, I x.Amount.N, .s x.Amount.S, .l (K1 4) x.Amount.Args.l x.Amount.Args.t]
@[simp] theorem ARule.fits (x : ARule) : Sim.fits (K1 6) (.d (ARule.dv x)) = true := rfl
@[simp] theorem ARule.purT (x : ARule) (H : Heap) : Sim.purT H (.d (ARule.dv x)) = some (.d (ARule.dv x), false) := rfl
@[simp] theorem ARule.clen (x : ARule) : (ARule.dv x).cells.length = 6 := rfl
@[simp] theorem ARule.aof (x : ARule) : DV.a (ARule.cells x) = ARule.dv x := rfl
@[simp] theorem ARule.ccl (x : ARule) : (ARule.cells x).length = 6 := rfl
@[simp] theorem ARule.n2_4 (x : ARule) : ((ARule.dv x).cells.drop 2).take 4 = AExpr.cells x.Amount := rfl
@[simp] theorem ARule.c0 (x : ARule) : (ARule.dv x).cells[0]? = some (.s x.Name) := rfl
@[simp] theorem ARule.c1 (x : ARule) : (ARule.dv x).cells[1]? = some (I x.Window) := rfl
@[simp] theorem ARule.c2 (x : ARule) : (ARule.dv x).cells[2]? = some (I x.Amount.Op) := rfl
@[simp] theorem ARule.c3 (x : ARule) : (ARule.dv x).cells[3]? = some (I x.Amount.N) := rfl
@[simp] theorem ARule.c4 (x : ARule) : (ARule.dv x).cells[4]? = some (.s x.Amount.S) := rfl
@[simp] theorem ARule.c5 (x : ARule) : (ARule.dv x).cells[5]? = some (.l (K1 4) x.Amount.Args.l x.Amount.Args.t) := rfl
structure AProduct where
 Name : List UInt8
 Currency : List UInt8
 Calendar : List UInt8
 From : Int
 Every : Int
 Overdraft : Int
 TaxPpm : Int
 Credit : AInterest
 Debit : AInterest
 Fees : SL AFee
 Rules : SL ARule
def AProduct.cells (x : AProduct) : List DV := [.s x.Name, .s x.Currency, .s x.Calendar, I x.From, I x.Every, I x.Overdraft, I x.TaxPpm, .l (K1 2) (x.Credit.Tiers.l.map ATier.dv) x.Credit.Tiers.t, .b x.Credit.Marginal, I x.Credit.Basis, I x.Credit.Mode, .b x.Credit.Keep, .l (K1 2) (x.Debit.Tiers.l.map ATier.dv) x.Debit.Tiers.t, .b x.Debit.Marginal, I x.Debit.Basis, I x.Debit.Mode, .b x.Debit.Keep, .l (K1 10) (x.Fees.l.map AFee.dv) x.Fees.t, .l (K1 6) (x.Rules.l.map ARule.dv) x.Rules.t]
def AProduct.dv (x : AProduct) : DV := .a [.s x.Name, .s x.Currency, .s x.Calendar, I x.From, I x.Every, I x.Overdraft, I x.TaxPpm, .l (K1 2) (x.Credit.Tiers.l.map ATier.dv) x.Credit.Tiers.t, .b x.Credit.Marginal, I x.Credit.Basis, I x.Credit.Mode, .b x.Credit.Keep, .l (K1 2) (x.Debit.Tiers.l.map ATier.dv) x.Debit.Tiers.t, .b x.Debit.Marginal, I x.Debit.Basis, I x.Debit.Mode, .b x.Debit.Keep, .l (K1 10) (x.Fees.l.map AFee.dv) x.Fees.t, .l (K1 6) (x.Rules.l.map ARule.dv) x.Rules.t]
@[simp] theorem AProduct.fits (x : AProduct) : Sim.fits (K1 19) (.d (AProduct.dv x)) = true := rfl
@[simp] theorem AProduct.purT (x : AProduct) (H : Heap) : Sim.purT H (.d (AProduct.dv x)) = some (.d (AProduct.dv x), false) := rfl
@[simp] theorem AProduct.clen (x : AProduct) : (AProduct.dv x).cells.length = 19 := rfl
@[simp] theorem AProduct.aof (x : AProduct) : DV.a (AProduct.cells x) = AProduct.dv x := rfl
@[simp] theorem AProduct.ccl (x : AProduct) : (AProduct.cells x).length = 19 := rfl
@[simp] theorem AProduct.n7_5 (x : AProduct) : ((AProduct.dv x).cells.drop 7).take 5 = AInterest.cells x.Credit := rfl
@[simp] theorem AProduct.n12_5 (x : AProduct) : ((AProduct.dv x).cells.drop 12).take 5 = AInterest.cells x.Debit := rfl
@[simp] theorem AProduct.c0 (x : AProduct) : (AProduct.dv x).cells[0]? = some (.s x.Name) := rfl
@[simp] theorem AProduct.c1 (x : AProduct) : (AProduct.dv x).cells[1]? = some (.s x.Currency) := rfl
@[simp] theorem AProduct.c2 (x : AProduct) : (AProduct.dv x).cells[2]? = some (.s x.Calendar) := rfl
@[simp] theorem AProduct.c3 (x : AProduct) : (AProduct.dv x).cells[3]? = some (I x.From) := rfl
@[simp] theorem AProduct.c4 (x : AProduct) : (AProduct.dv x).cells[4]? = some (I x.Every) := rfl
@[simp] theorem AProduct.c5 (x : AProduct) : (AProduct.dv x).cells[5]? = some (I x.Overdraft) := rfl
@[simp] theorem AProduct.c6 (x : AProduct) : (AProduct.dv x).cells[6]? = some (I x.TaxPpm) := rfl
@[simp] theorem AProduct.c7 (x : AProduct) : (AProduct.dv x).cells[7]? = some (.l (K1 2) (x.Credit.Tiers.l.map ATier.dv) x.Credit.Tiers.t) := rfl
@[simp] theorem AProduct.c8 (x : AProduct) : (AProduct.dv x).cells[8]? = some (.b x.Credit.Marginal) := rfl
@[simp] theorem AProduct.c9 (x : AProduct) : (AProduct.dv x).cells[9]? = some (I x.Credit.Basis) := rfl
@[simp] theorem AProduct.c10 (x : AProduct) : (AProduct.dv x).cells[10]? = some (I x.Credit.Mode) := rfl
@[simp] theorem AProduct.c11 (x : AProduct) : (AProduct.dv x).cells[11]? = some (.b x.Credit.Keep) := rfl
@[simp] theorem AProduct.c12 (x : AProduct) : (AProduct.dv x).cells[12]? = some (.l (K1 2) (x.Debit.Tiers.l.map ATier.dv) x.Debit.Tiers.t) := rfl
@[simp] theorem AProduct.c13 (x : AProduct) : (AProduct.dv x).cells[13]? = some (.b x.Debit.Marginal) := rfl
@[simp] theorem AProduct.c14 (x : AProduct) : (AProduct.dv x).cells[14]? = some (I x.Debit.Basis) := rfl
@[simp] theorem AProduct.c15 (x : AProduct) : (AProduct.dv x).cells[15]? = some (I x.Debit.Mode) := rfl
@[simp] theorem AProduct.c16 (x : AProduct) : (AProduct.dv x).cells[16]? = some (.b x.Debit.Keep) := rfl
@[simp] theorem AProduct.c17 (x : AProduct) : (AProduct.dv x).cells[17]? = some (.l (K1 10) (x.Fees.l.map AFee.dv) x.Fees.t) := rfl
@[simp] theorem AProduct.c18 (x : AProduct) : (AProduct.dv x).cells[18]? = some (.l (K1 6) (x.Rules.l.map ARule.dv) x.Rules.t) := rfl
structure AGl where
 Id : Int
 Parent : Int
 Kind : Int
 Name : List UInt8
def AGl.cells (x : AGl) : List DV := [I x.Id, I x.Parent, I x.Kind, .s x.Name]
def AGl.dv (x : AGl) : DV := .a [I x.Id, I x.Parent, I x.Kind, .s x.Name]
@[simp] theorem AGl.fits (x : AGl) : Sim.fits (K1 4) (.d (AGl.dv x)) = true := rfl
@[simp] theorem AGl.purT (x : AGl) (H : Heap) : Sim.purT H (.d (AGl.dv x)) = some (.d (AGl.dv x), false) := rfl
@[simp] theorem AGl.clen (x : AGl) : (AGl.dv x).cells.length = 4 := rfl
@[simp] theorem AGl.aof (x : AGl) : DV.a (AGl.cells x) = AGl.dv x := rfl
@[simp] theorem AGl.ccl (x : AGl) : (AGl.cells x).length = 4 := rfl
@[simp] theorem AGl.c0 (x : AGl) : (AGl.dv x).cells[0]? = some (I x.Id) := rfl
@[simp] theorem AGl.c1 (x : AGl) : (AGl.dv x).cells[1]? = some (I x.Parent) := rfl
@[simp] theorem AGl.c2 (x : AGl) : (AGl.dv x).cells[2]? = some (I x.Kind) := rfl
@[simp] theorem AGl.c3 (x : AGl) : (AGl.dv x).cells[3]? = some (.s x.Name) := rfl
structure ALeg where
 Account : Int
 Amount : Int
 Currency : List UInt8
def ALeg.cells (x : ALeg) : List DV := [I x.Account, I x.Amount, .s x.Currency]
def ALeg.dv (x : ALeg) : DV := .a [I x.Account, I x.Amount, .s x.Currency]
@[simp] theorem ALeg.fits (x : ALeg) : Sim.fits (K1 3) (.d (ALeg.dv x)) = true := rfl
@[simp] theorem ALeg.purT (x : ALeg) (H : Heap) : Sim.purT H (.d (ALeg.dv x)) = some (.d (ALeg.dv x), false) := rfl
@[simp] theorem ALeg.clen (x : ALeg) : (ALeg.dv x).cells.length = 3 := rfl
@[simp] theorem ALeg.aof (x : ALeg) : DV.a (ALeg.cells x) = ALeg.dv x := rfl
@[simp] theorem ALeg.ccl (x : ALeg) : (ALeg.cells x).length = 3 := rfl
@[simp] theorem ALeg.c0 (x : ALeg) : (ALeg.dv x).cells[0]? = some (I x.Account) := rfl
@[simp] theorem ALeg.c1 (x : ALeg) : (ALeg.dv x).cells[1]? = some (I x.Amount) := rfl
@[simp] theorem ALeg.c2 (x : ALeg) : (ALeg.dv x).cells[2]? = some (.s x.Currency) := rfl
structure AEntry where
 Id : Int
 Booked : Int
 Value : Int
 Kind : Int
 Auth : Int
 Period : Int
 Key : List UInt8
 Text : List UInt8
 Legs : SL ALeg
 Chain : Int
def AEntry.cells (x : AEntry) : List DV := [I x.Id, I x.Booked, I x.Value, I x.Kind, I x.Auth, I x.Period, .s x.Key, .s x.Text, .l (K1 3) (x.Legs.l.map ALeg.dv) x.Legs.t, .i .u64 x.Chain]
def AEntry.dv (x : AEntry) : DV := .a [I x.Id, I x.Booked, I x.Value, I x.Kind, I x.Auth, I x.Period, .s x.Key, .s x.Text, .l (K1 3) (x.Legs.l.map ALeg.dv) x.Legs.t, .i .u64 x.Chain]
@[simp] theorem AEntry.fits (x : AEntry) : Sim.fits (K1 10) (.d (AEntry.dv x)) = true := rfl
@[simp] theorem AEntry.purT (x : AEntry) (H : Heap) : Sim.purT H (.d (AEntry.dv x)) = some (.d (AEntry.dv x), false) := rfl
@[simp] theorem AEntry.clen (x : AEntry) : (AEntry.dv x).cells.length = 10 := rfl
@[simp] theorem AEntry.aof (x : AEntry) : DV.a (AEntry.cells x) = AEntry.dv x := rfl
@[simp] theorem AEntry.ccl (x : AEntry) : (AEntry.cells x).length = 10 := rfl
@[simp] theorem AEntry.c0 (x : AEntry) : (AEntry.dv x).cells[0]? = some (I x.Id) := rfl
@[simp] theorem AEntry.c1 (x : AEntry) : (AEntry.dv x).cells[1]? = some (I x.Booked) := rfl
@[simp] theorem AEntry.c2 (x : AEntry) : (AEntry.dv x).cells[2]? = some (I x.Value) := rfl
@[simp] theorem AEntry.c3 (x : AEntry) : (AEntry.dv x).cells[3]? = some (I x.Kind) := rfl
@[simp] theorem AEntry.c4 (x : AEntry) : (AEntry.dv x).cells[4]? = some (I x.Auth) := rfl
@[simp] theorem AEntry.c5 (x : AEntry) : (AEntry.dv x).cells[5]? = some (I x.Period) := rfl
@[simp] theorem AEntry.c6 (x : AEntry) : (AEntry.dv x).cells[6]? = some (.s x.Key) := rfl
@[simp] theorem AEntry.c7 (x : AEntry) : (AEntry.dv x).cells[7]? = some (.s x.Text) := rfl
@[simp] theorem AEntry.c8 (x : AEntry) : (AEntry.dv x).cells[8]? = some (.l (K1 3) (x.Legs.l.map ALeg.dv) x.Legs.t) := rfl
@[simp] theorem AEntry.c9 (x : AEntry) : (AEntry.dv x).cells[9]? = some (.i .u64 x.Chain) := rfl
structure AHold where
 Id : Int
 Account : Int
 Amount : Int
 From : Int
 To : Int
 Key : List UInt8
def AHold.cells (x : AHold) : List DV := [I x.Id, I x.Account, I x.Amount, I x.From, I x.To, .s x.Key]
def AHold.dv (x : AHold) : DV := .a [I x.Id, I x.Account, I x.Amount, I x.From, I x.To, .s x.Key]
@[simp] theorem AHold.fits (x : AHold) : Sim.fits (K1 6) (.d (AHold.dv x)) = true := rfl
@[simp] theorem AHold.purT (x : AHold) (H : Heap) : Sim.purT H (.d (AHold.dv x)) = some (.d (AHold.dv x), false) := rfl
@[simp] theorem AHold.clen (x : AHold) : (AHold.dv x).cells.length = 6 := rfl
@[simp] theorem AHold.aof (x : AHold) : DV.a (AHold.cells x) = AHold.dv x := rfl
@[simp] theorem AHold.ccl (x : AHold) : (AHold.cells x).length = 6 := rfl
@[simp] theorem AHold.c0 (x : AHold) : (AHold.dv x).cells[0]? = some (I x.Id) := rfl
@[simp] theorem AHold.c1 (x : AHold) : (AHold.dv x).cells[1]? = some (I x.Account) := rfl
@[simp] theorem AHold.c2 (x : AHold) : (AHold.dv x).cells[2]? = some (I x.Amount) := rfl
@[simp] theorem AHold.c3 (x : AHold) : (AHold.dv x).cells[3]? = some (I x.From) := rfl
@[simp] theorem AHold.c4 (x : AHold) : (AHold.dv x).cells[4]? = some (I x.To) := rfl
@[simp] theorem AHold.c5 (x : AHold) : (AHold.dv x).cells[5]? = some (.s x.Key) := rfl
structure ABlock where
 Id : Int
 Account : Int
 Kind : Int
 Amount : Int
 From : Int
 To : Int
 Source : List UInt8
def ABlock.cells (x : ABlock) : List DV := [I x.Id, I x.Account, I x.Kind, I x.Amount, I x.From, I x.To, .s x.Source]
def ABlock.dv (x : ABlock) : DV := .a [I x.Id, I x.Account, I x.Kind, I x.Amount, I x.From, I x.To, .s x.Source]
@[simp] theorem ABlock.fits (x : ABlock) : Sim.fits (K1 7) (.d (ABlock.dv x)) = true := rfl
@[simp] theorem ABlock.purT (x : ABlock) (H : Heap) : Sim.purT H (.d (ABlock.dv x)) = some (.d (ABlock.dv x), false) := rfl
@[simp] theorem ABlock.clen (x : ABlock) : (ABlock.dv x).cells.length = 7 := rfl
@[simp] theorem ABlock.aof (x : ABlock) : DV.a (ABlock.cells x) = ABlock.dv x := rfl
@[simp] theorem ABlock.ccl (x : ABlock) : (ABlock.cells x).length = 7 := rfl
@[simp] theorem ABlock.c0 (x : ABlock) : (ABlock.dv x).cells[0]? = some (I x.Id) := rfl
@[simp] theorem ABlock.c1 (x : ABlock) : (ABlock.dv x).cells[1]? = some (I x.Account) := rfl
@[simp] theorem ABlock.c2 (x : ABlock) : (ABlock.dv x).cells[2]? = some (I x.Kind) := rfl
@[simp] theorem ABlock.c3 (x : ABlock) : (ABlock.dv x).cells[3]? = some (I x.Amount) := rfl
@[simp] theorem ABlock.c4 (x : ABlock) : (ABlock.dv x).cells[4]? = some (I x.From) := rfl
@[simp] theorem ABlock.c5 (x : ABlock) : (ABlock.dv x).cells[5]? = some (I x.To) := rfl
@[simp] theorem ABlock.c6 (x : ABlock) : (ABlock.dv x).cells[6]? = some (.s x.Source) := rfl
structure AAccount where
 Id : Int
 Opened : Int
 Closed : Int
 Extra : Int
 Owner : List UInt8
 Product : List UInt8
 Number : List UInt8
def AAccount.cells (x : AAccount) : List DV := [I x.Id, I x.Opened, I x.Closed, I x.Extra, .s x.Owner, .s x.Product, .s x.Number]
def AAccount.dv (x : AAccount) : DV := .a [I x.Id, I x.Opened, I x.Closed, I x.Extra, .s x.Owner, .s x.Product, .s x.Number]
@[simp] theorem AAccount.fits (x : AAccount) : Sim.fits (K1 7) (.d (AAccount.dv x)) = true := rfl
@[simp] theorem AAccount.purT (x : AAccount) (H : Heap) : Sim.purT H (.d (AAccount.dv x)) = some (.d (AAccount.dv x), false) := rfl
@[simp] theorem AAccount.clen (x : AAccount) : (AAccount.dv x).cells.length = 7 := rfl
@[simp] theorem AAccount.aof (x : AAccount) : DV.a (AAccount.cells x) = AAccount.dv x := rfl
@[simp] theorem AAccount.ccl (x : AAccount) : (AAccount.cells x).length = 7 := rfl
@[simp] theorem AAccount.c0 (x : AAccount) : (AAccount.dv x).cells[0]? = some (I x.Id) := rfl
@[simp] theorem AAccount.c1 (x : AAccount) : (AAccount.dv x).cells[1]? = some (I x.Opened) := rfl
@[simp] theorem AAccount.c2 (x : AAccount) : (AAccount.dv x).cells[2]? = some (I x.Closed) := rfl
@[simp] theorem AAccount.c3 (x : AAccount) : (AAccount.dv x).cells[3]? = some (I x.Extra) := rfl
@[simp] theorem AAccount.c4 (x : AAccount) : (AAccount.dv x).cells[4]? = some (.s x.Owner) := rfl
@[simp] theorem AAccount.c5 (x : AAccount) : (AAccount.dv x).cells[5]? = some (.s x.Product) := rfl
@[simp] theorem AAccount.c6 (x : AAccount) : (AAccount.dv x).cells[6]? = some (.s x.Number) := rfl
structure APlan where
 Cash : Int
 Deposits : Int
 InterestPaid : Int
 InterestEarned : Int
 FeeEarned : Int
 Tax : Int
 Clearing : Int
 Loans : Int
 LoanInterest : Int
 Penalty : Int
 Provision : Int
 ProvisionCost : Int
 Loss : Int
 Recovery : Int
def APlan.cells (x : APlan) : List DV := [I x.Cash, I x.Deposits, I x.InterestPaid, I x.InterestEarned, I x.FeeEarned, I x.Tax, I x.Clearing, I x.Loans, I x.LoanInterest, I x.Penalty, I x.Provision, I x.ProvisionCost, I x.Loss, I x.Recovery]
def APlan.dv (x : APlan) : DV := .a [I x.Cash, I x.Deposits, I x.InterestPaid, I x.InterestEarned, I x.FeeEarned, I x.Tax, I x.Clearing, I x.Loans, I x.LoanInterest, I x.Penalty, I x.Provision, I x.ProvisionCost, I x.Loss, I x.Recovery]
@[simp] theorem APlan.fits (x : APlan) : Sim.fits (K1 14) (.d (APlan.dv x)) = true := rfl
@[simp] theorem APlan.purT (x : APlan) (H : Heap) : Sim.purT H (.d (APlan.dv x)) = some (.d (APlan.dv x), false) := rfl
@[simp] theorem APlan.clen (x : APlan) : (APlan.dv x).cells.length = 14 := rfl
@[simp] theorem APlan.aof (x : APlan) : DV.a (APlan.cells x) = APlan.dv x := rfl
@[simp] theorem APlan.ccl (x : APlan) : (APlan.cells x).length = 14 := rfl
@[simp] theorem APlan.c0 (x : APlan) : (APlan.dv x).cells[0]? = some (I x.Cash) := rfl
@[simp] theorem APlan.c1 (x : APlan) : (APlan.dv x).cells[1]? = some (I x.Deposits) := rfl
@[simp] theorem APlan.c2 (x : APlan) : (APlan.dv x).cells[2]? = some (I x.InterestPaid) := rfl
@[simp] theorem APlan.c3 (x : APlan) : (APlan.dv x).cells[3]? = some (I x.InterestEarned) := rfl
@[simp] theorem APlan.c4 (x : APlan) : (APlan.dv x).cells[4]? = some (I x.FeeEarned) := rfl
@[simp] theorem APlan.c5 (x : APlan) : (APlan.dv x).cells[5]? = some (I x.Tax) := rfl
@[simp] theorem APlan.c6 (x : APlan) : (APlan.dv x).cells[6]? = some (I x.Clearing) := rfl
@[simp] theorem APlan.c7 (x : APlan) : (APlan.dv x).cells[7]? = some (I x.Loans) := rfl
@[simp] theorem APlan.c8 (x : APlan) : (APlan.dv x).cells[8]? = some (I x.LoanInterest) := rfl
@[simp] theorem APlan.c9 (x : APlan) : (APlan.dv x).cells[9]? = some (I x.Penalty) := rfl
@[simp] theorem APlan.c10 (x : APlan) : (APlan.dv x).cells[10]? = some (I x.Provision) := rfl
@[simp] theorem APlan.c11 (x : APlan) : (APlan.dv x).cells[11]? = some (I x.ProvisionCost) := rfl
@[simp] theorem APlan.c12 (x : APlan) : (APlan.dv x).cells[12]? = some (I x.Loss) := rfl
@[simp] theorem APlan.c13 (x : APlan) : (APlan.dv x).cells[13]? = some (I x.Recovery) := rfl
structure ABooks where
 Currencies : SL ACurrency
 Calendars : SL ACalendar
 Chart : SL AGl
 Plan : APlan
 Products : SL AProduct
 Accounts : SL AAccount
 Journal : SL AEntry
 Holds : SL AHold
 Blocks : SL ABlock
def ABooks.cells (x : ABooks) : List DV := [.l (K1 2) (x.Currencies.l.map ACurrency.dv) x.Currencies.t, .l (K1 3) (x.Calendars.l.map ACalendar.dv) x.Calendars.t, .l (K1 4) (x.Chart.l.map AGl.dv) x.Chart.t, I x.Plan.Cash, I x.Plan.Deposits, I x.Plan.InterestPaid, I x.Plan.InterestEarned, I x.Plan.FeeEarned, I x.Plan.Tax, I x.Plan.Clearing, I x.Plan.Loans, I x.Plan.LoanInterest, I x.Plan.Penalty, I x.Plan.Provision, I x.Plan.ProvisionCost, I x.Plan.Loss, I x.Plan.Recovery, .l (K1 19) (x.Products.l.map AProduct.dv) x.Products.t, .l (K1 7) (x.Accounts.l.map AAccount.dv) x.Accounts.t, .l (K1 10) (x.Journal.l.map AEntry.dv) x.Journal.t, .l (K1 6) (x.Holds.l.map AHold.dv) x.Holds.t, .l (K1 7) (x.Blocks.l.map ABlock.dv) x.Blocks.t]
def ABooks.dv (x : ABooks) : DV := .a [.l (K1 2) (x.Currencies.l.map ACurrency.dv) x.Currencies.t, .l (K1 3) (x.Calendars.l.map ACalendar.dv) x.Calendars.t, .l (K1 4) (x.Chart.l.map AGl.dv) x.Chart.t, I x.Plan.Cash, I x.Plan.Deposits, I x.Plan.InterestPaid, I x.Plan.InterestEarned, I x.Plan.FeeEarned, I x.Plan.Tax, I x.Plan.Clearing, I x.Plan.Loans, I x.Plan.LoanInterest, I x.Plan.Penalty, I x.Plan.Provision, I x.Plan.ProvisionCost, I x.Plan.Loss, I x.Plan.Recovery, .l (K1 19) (x.Products.l.map AProduct.dv) x.Products.t, .l (K1 7) (x.Accounts.l.map AAccount.dv) x.Accounts.t, .l (K1 10) (x.Journal.l.map AEntry.dv) x.Journal.t, .l (K1 6) (x.Holds.l.map AHold.dv) x.Holds.t, .l (K1 7) (x.Blocks.l.map ABlock.dv) x.Blocks.t]
@[simp] theorem ABooks.fits (x : ABooks) : Sim.fits (K1 22) (.d (ABooks.dv x)) = true := rfl
@[simp] theorem ABooks.purT (x : ABooks) (H : Heap) : Sim.purT H (.d (ABooks.dv x)) = some (.d (ABooks.dv x), false) := rfl
@[simp] theorem ABooks.clen (x : ABooks) : (ABooks.dv x).cells.length = 22 := rfl
@[simp] theorem ABooks.aof (x : ABooks) : DV.a (ABooks.cells x) = ABooks.dv x := rfl
@[simp] theorem ABooks.ccl (x : ABooks) : (ABooks.cells x).length = 22 := rfl
@[simp] theorem ABooks.n3_14 (x : ABooks) : ((ABooks.dv x).cells.drop 3).take 14 = APlan.cells x.Plan := rfl
@[simp] theorem ABooks.c0 (x : ABooks) : (ABooks.dv x).cells[0]? = some (.l (K1 2) (x.Currencies.l.map ACurrency.dv) x.Currencies.t) := rfl
@[simp] theorem ABooks.c1 (x : ABooks) : (ABooks.dv x).cells[1]? = some (.l (K1 3) (x.Calendars.l.map ACalendar.dv) x.Calendars.t) := rfl
@[simp] theorem ABooks.c2 (x : ABooks) : (ABooks.dv x).cells[2]? = some (.l (K1 4) (x.Chart.l.map AGl.dv) x.Chart.t) := rfl
@[simp] theorem ABooks.c3 (x : ABooks) : (ABooks.dv x).cells[3]? = some (I x.Plan.Cash) := rfl
@[simp] theorem ABooks.c4 (x : ABooks) : (ABooks.dv x).cells[4]? = some (I x.Plan.Deposits) := rfl
@[simp] theorem ABooks.c5 (x : ABooks) : (ABooks.dv x).cells[5]? = some (I x.Plan.InterestPaid) := rfl
@[simp] theorem ABooks.c6 (x : ABooks) : (ABooks.dv x).cells[6]? = some (I x.Plan.InterestEarned) := rfl
@[simp] theorem ABooks.c7 (x : ABooks) : (ABooks.dv x).cells[7]? = some (I x.Plan.FeeEarned) := rfl
@[simp] theorem ABooks.c8 (x : ABooks) : (ABooks.dv x).cells[8]? = some (I x.Plan.Tax) := rfl
@[simp] theorem ABooks.c9 (x : ABooks) : (ABooks.dv x).cells[9]? = some (I x.Plan.Clearing) := rfl
@[simp] theorem ABooks.c10 (x : ABooks) : (ABooks.dv x).cells[10]? = some (I x.Plan.Loans) := rfl
@[simp] theorem ABooks.c11 (x : ABooks) : (ABooks.dv x).cells[11]? = some (I x.Plan.LoanInterest) := rfl
@[simp] theorem ABooks.c12 (x : ABooks) : (ABooks.dv x).cells[12]? = some (I x.Plan.Penalty) := rfl
@[simp] theorem ABooks.c13 (x : ABooks) : (ABooks.dv x).cells[13]? = some (I x.Plan.Provision) := rfl
@[simp] theorem ABooks.c14 (x : ABooks) : (ABooks.dv x).cells[14]? = some (I x.Plan.ProvisionCost) := rfl
@[simp] theorem ABooks.c15 (x : ABooks) : (ABooks.dv x).cells[15]? = some (I x.Plan.Loss) := rfl
@[simp] theorem ABooks.c16 (x : ABooks) : (ABooks.dv x).cells[16]? = some (I x.Plan.Recovery) := rfl
@[simp] theorem ABooks.c17 (x : ABooks) : (ABooks.dv x).cells[17]? = some (.l (K1 19) (x.Products.l.map AProduct.dv) x.Products.t) := rfl
@[simp] theorem ABooks.c18 (x : ABooks) : (ABooks.dv x).cells[18]? = some (.l (K1 7) (x.Accounts.l.map AAccount.dv) x.Accounts.t) := rfl
@[simp] theorem ABooks.c19 (x : ABooks) : (ABooks.dv x).cells[19]? = some (.l (K1 10) (x.Journal.l.map AEntry.dv) x.Journal.t) := rfl
@[simp] theorem ABooks.c20 (x : ABooks) : (ABooks.dv x).cells[20]? = some (.l (K1 6) (x.Holds.l.map AHold.dv) x.Holds.t) := rfl
@[simp] theorem ABooks.c21 (x : ABooks) : (ABooks.dv x).cells[21]? = some (.l (K1 7) (x.Blocks.l.map ABlock.dv) x.Blocks.t) := rfl
structure APeriod where
 Account : Int
 From : Int
 To : Int
 Credit : Int
 Debit : Int
 Tax : Int
 Count : Int
 CreditRest : AWide
 DebitRest : AWide
def APeriod.cells (x : APeriod) : List DV := [I x.Account, I x.From, I x.To, I x.Credit, I x.Debit, I x.Tax, I x.Count, I x.CreditRest.Hi, .i .u64 x.CreditRest.Lo, I x.DebitRest.Hi, .i .u64 x.DebitRest.Lo]
def APeriod.dv (x : APeriod) : DV := .a [I x.Account, I x.From, I x.To, I x.Credit, I x.Debit, I x.Tax, I x.Count, I x.CreditRest.Hi, .i .u64 x.CreditRest.Lo, I x.DebitRest.Hi, .i .u64 x.DebitRest.Lo]
@[simp] theorem APeriod.fits (x : APeriod) : Sim.fits (K1 11) (.d (APeriod.dv x)) = true := rfl
@[simp] theorem APeriod.purT (x : APeriod) (H : Heap) : Sim.purT H (.d (APeriod.dv x)) = some (.d (APeriod.dv x), false) := rfl
@[simp] theorem APeriod.clen (x : APeriod) : (APeriod.dv x).cells.length = 11 := rfl
@[simp] theorem APeriod.aof (x : APeriod) : DV.a (APeriod.cells x) = APeriod.dv x := rfl
@[simp] theorem APeriod.ccl (x : APeriod) : (APeriod.cells x).length = 11 := rfl
@[simp] theorem APeriod.n7_2 (x : APeriod) : ((APeriod.dv x).cells.drop 7).take 2 = AWide.cells x.CreditRest := rfl
@[simp] theorem APeriod.n9_2 (x : APeriod) : ((APeriod.dv x).cells.drop 9).take 2 = AWide.cells x.DebitRest := rfl
@[simp] theorem APeriod.c0 (x : APeriod) : (APeriod.dv x).cells[0]? = some (I x.Account) := rfl
@[simp] theorem APeriod.c1 (x : APeriod) : (APeriod.dv x).cells[1]? = some (I x.From) := rfl
@[simp] theorem APeriod.c2 (x : APeriod) : (APeriod.dv x).cells[2]? = some (I x.To) := rfl
@[simp] theorem APeriod.c3 (x : APeriod) : (APeriod.dv x).cells[3]? = some (I x.Credit) := rfl
@[simp] theorem APeriod.c4 (x : APeriod) : (APeriod.dv x).cells[4]? = some (I x.Debit) := rfl
@[simp] theorem APeriod.c5 (x : APeriod) : (APeriod.dv x).cells[5]? = some (I x.Tax) := rfl
@[simp] theorem APeriod.c6 (x : APeriod) : (APeriod.dv x).cells[6]? = some (I x.Count) := rfl
@[simp] theorem APeriod.c7 (x : APeriod) : (APeriod.dv x).cells[7]? = some (I x.CreditRest.Hi) := rfl
@[simp] theorem APeriod.c8 (x : APeriod) : (APeriod.dv x).cells[8]? = some (.i .u64 x.CreditRest.Lo) := rfl
@[simp] theorem APeriod.c9 (x : APeriod) : (APeriod.dv x).cells[9]? = some (I x.DebitRest.Hi) := rfl
@[simp] theorem APeriod.c10 (x : APeriod) : (APeriod.dv x).cells[10]? = some (.i .u64 x.DebitRest.Lo) := rfl
structure ATerms where
 Method : Int
 Principal : Int
 Ppm : Int
 Start : Int
 Every : Int
 Count : Int
 Balloon : Int
 Mode : Int
 PenaltyPpm : Int
 FeePpm : Int
 Calendar : List UInt8
 Currency : List UInt8
def ATerms.cells (x : ATerms) : List DV := [I x.Method, I x.Principal, I x.Ppm, I x.Start, I x.Every, I x.Count, I x.Balloon, I x.Mode, I x.PenaltyPpm, I x.FeePpm, .s x.Calendar, .s x.Currency]
def ATerms.dv (x : ATerms) : DV := .a [I x.Method, I x.Principal, I x.Ppm, I x.Start, I x.Every, I x.Count, I x.Balloon, I x.Mode, I x.PenaltyPpm, I x.FeePpm, .s x.Calendar, .s x.Currency]
@[simp] theorem ATerms.fits (x : ATerms) : Sim.fits (K1 12) (.d (ATerms.dv x)) = true := rfl
@[simp] theorem ATerms.purT (x : ATerms) (H : Heap) : Sim.purT H (.d (ATerms.dv x)) = some (.d (ATerms.dv x), false) := rfl
@[simp] theorem ATerms.clen (x : ATerms) : (ATerms.dv x).cells.length = 12 := rfl
@[simp] theorem ATerms.aof (x : ATerms) : DV.a (ATerms.cells x) = ATerms.dv x := rfl
@[simp] theorem ATerms.ccl (x : ATerms) : (ATerms.cells x).length = 12 := rfl
@[simp] theorem ATerms.c0 (x : ATerms) : (ATerms.dv x).cells[0]? = some (I x.Method) := rfl
@[simp] theorem ATerms.c1 (x : ATerms) : (ATerms.dv x).cells[1]? = some (I x.Principal) := rfl
@[simp] theorem ATerms.c2 (x : ATerms) : (ATerms.dv x).cells[2]? = some (I x.Ppm) := rfl
@[simp] theorem ATerms.c3 (x : ATerms) : (ATerms.dv x).cells[3]? = some (I x.Start) := rfl
@[simp] theorem ATerms.c4 (x : ATerms) : (ATerms.dv x).cells[4]? = some (I x.Every) := rfl
@[simp] theorem ATerms.c5 (x : ATerms) : (ATerms.dv x).cells[5]? = some (I x.Count) := rfl
@[simp] theorem ATerms.c6 (x : ATerms) : (ATerms.dv x).cells[6]? = some (I x.Balloon) := rfl
@[simp] theorem ATerms.c7 (x : ATerms) : (ATerms.dv x).cells[7]? = some (I x.Mode) := rfl
@[simp] theorem ATerms.c8 (x : ATerms) : (ATerms.dv x).cells[8]? = some (I x.PenaltyPpm) := rfl
@[simp] theorem ATerms.c9 (x : ATerms) : (ATerms.dv x).cells[9]? = some (I x.FeePpm) := rfl
@[simp] theorem ATerms.c10 (x : ATerms) : (ATerms.dv x).cells[10]? = some (.s x.Calendar) := rfl
@[simp] theorem ATerms.c11 (x : ATerms) : (ATerms.dv x).cells[11]? = some (.s x.Currency) := rfl
structure AChange where
 Day : Int
 Amount : Int
 Old : ATerms
def AChange.cells (x : AChange) : List DV := [I x.Day, I x.Amount, I x.Old.Method, I x.Old.Principal, I x.Old.Ppm, I x.Old.Start, I x.Old.Every, I x.Old.Count, I x.Old.Balloon, I x.Old.Mode, I x.Old.PenaltyPpm, I x.Old.FeePpm, .s x.Old.Calendar, .s x.Old.Currency]
def AChange.dv (x : AChange) : DV := .a [I x.Day, I x.Amount, I x.Old.Method, I x.Old.Principal, I x.Old.Ppm, I x.Old.Start, I x.Old.Every, I x.Old.Count, I x.Old.Balloon, I x.Old.Mode, I x.Old.PenaltyPpm, I x.Old.FeePpm, .s x.Old.Calendar, .s x.Old.Currency]
@[simp] theorem AChange.fits (x : AChange) : Sim.fits (K1 14) (.d (AChange.dv x)) = true := rfl
@[simp] theorem AChange.purT (x : AChange) (H : Heap) : Sim.purT H (.d (AChange.dv x)) = some (.d (AChange.dv x), false) := rfl
@[simp] theorem AChange.clen (x : AChange) : (AChange.dv x).cells.length = 14 := rfl
@[simp] theorem AChange.aof (x : AChange) : DV.a (AChange.cells x) = AChange.dv x := rfl
@[simp] theorem AChange.ccl (x : AChange) : (AChange.cells x).length = 14 := rfl
@[simp] theorem AChange.n2_12 (x : AChange) : ((AChange.dv x).cells.drop 2).take 12 = ATerms.cells x.Old := rfl
@[simp] theorem AChange.c0 (x : AChange) : (AChange.dv x).cells[0]? = some (I x.Day) := rfl
@[simp] theorem AChange.c1 (x : AChange) : (AChange.dv x).cells[1]? = some (I x.Amount) := rfl
@[simp] theorem AChange.c2 (x : AChange) : (AChange.dv x).cells[2]? = some (I x.Old.Method) := rfl
@[simp] theorem AChange.c3 (x : AChange) : (AChange.dv x).cells[3]? = some (I x.Old.Principal) := rfl
@[simp] theorem AChange.c4 (x : AChange) : (AChange.dv x).cells[4]? = some (I x.Old.Ppm) := rfl
@[simp] theorem AChange.c5 (x : AChange) : (AChange.dv x).cells[5]? = some (I x.Old.Start) := rfl
@[simp] theorem AChange.c6 (x : AChange) : (AChange.dv x).cells[6]? = some (I x.Old.Every) := rfl
@[simp] theorem AChange.c7 (x : AChange) : (AChange.dv x).cells[7]? = some (I x.Old.Count) := rfl
@[simp] theorem AChange.c8 (x : AChange) : (AChange.dv x).cells[8]? = some (I x.Old.Balloon) := rfl
@[simp] theorem AChange.c9 (x : AChange) : (AChange.dv x).cells[9]? = some (I x.Old.Mode) := rfl
@[simp] theorem AChange.c10 (x : AChange) : (AChange.dv x).cells[10]? = some (I x.Old.PenaltyPpm) := rfl
@[simp] theorem AChange.c11 (x : AChange) : (AChange.dv x).cells[11]? = some (I x.Old.FeePpm) := rfl
@[simp] theorem AChange.c12 (x : AChange) : (AChange.dv x).cells[12]? = some (.s x.Old.Calendar) := rfl
@[simp] theorem AChange.c13 (x : AChange) : (AChange.dv x).cells[13]? = some (.s x.Old.Currency) := rfl
structure ADue where
 No : Int
 Day : Int
 Principal : Int
 Interest : Int
def ADue.cells (x : ADue) : List DV := [I x.No, I x.Day, I x.Principal, I x.Interest]
def ADue.dv (x : ADue) : DV := .a [I x.No, I x.Day, I x.Principal, I x.Interest]
@[simp] theorem ADue.fits (x : ADue) : Sim.fits (K1 4) (.d (ADue.dv x)) = true := rfl
@[simp] theorem ADue.purT (x : ADue) (H : Heap) : Sim.purT H (.d (ADue.dv x)) = some (.d (ADue.dv x), false) := rfl
@[simp] theorem ADue.clen (x : ADue) : (ADue.dv x).cells.length = 4 := rfl
@[simp] theorem ADue.aof (x : ADue) : DV.a (ADue.cells x) = ADue.dv x := rfl
@[simp] theorem ADue.ccl (x : ADue) : (ADue.cells x).length = 4 := rfl
@[simp] theorem ADue.c0 (x : ADue) : (ADue.dv x).cells[0]? = some (I x.No) := rfl
@[simp] theorem ADue.c1 (x : ADue) : (ADue.dv x).cells[1]? = some (I x.Day) := rfl
@[simp] theorem ADue.c2 (x : ADue) : (ADue.dv x).cells[2]? = some (I x.Principal) := rfl
@[simp] theorem ADue.c3 (x : ADue) : (ADue.dv x).cells[3]? = some (I x.Interest) := rfl
structure ALoan where
 Id : Int
 Account : Int
 State : Int
 PaidPrincipal : Int
 PaidInterest : Int
 Fee : Int
 Penalty : Int
 Charged : Int
 Provision : Int
 Loss : Int
 Recovered : Int
 Terms : ATerms
 Dues : SL ADue
 Changes : SL AChange
def ALoan.cells (x : ALoan) : List DV := [I x.Id, I x.Account, I x.State, I x.PaidPrincipal, I x.PaidInterest, I x.Fee, I x.Penalty, I x.Charged, I x.Provision, I x.Loss, I x.Recovered, I x.Terms.Method, I x.Terms.Principal, I x.Terms.Ppm, I x.Terms.Start, I x.Terms.Every, I x.Terms.Count, I x.Terms.Balloon, I x.Terms.Mode, I x.Terms.PenaltyPpm, I x.Terms.FeePpm, .s x.Terms.Calendar, .s x.Terms.Currency, .l (K1 4) (x.Dues.l.map ADue.dv) x.Dues.t, .l (K1 14) (x.Changes.l.map AChange.dv) x.Changes.t]
def ALoan.dv (x : ALoan) : DV := .a [I x.Id, I x.Account, I x.State, I x.PaidPrincipal, I x.PaidInterest, I x.Fee, I x.Penalty, I x.Charged, I x.Provision, I x.Loss, I x.Recovered, I x.Terms.Method, I x.Terms.Principal, I x.Terms.Ppm, I x.Terms.Start, I x.Terms.Every, I x.Terms.Count, I x.Terms.Balloon, I x.Terms.Mode, I x.Terms.PenaltyPpm, I x.Terms.FeePpm, .s x.Terms.Calendar, .s x.Terms.Currency, .l (K1 4) (x.Dues.l.map ADue.dv) x.Dues.t, .l (K1 14) (x.Changes.l.map AChange.dv) x.Changes.t]
@[simp] theorem ALoan.fits (x : ALoan) : Sim.fits (K1 25) (.d (ALoan.dv x)) = true := rfl
@[simp] theorem ALoan.purT (x : ALoan) (H : Heap) : Sim.purT H (.d (ALoan.dv x)) = some (.d (ALoan.dv x), false) := rfl
@[simp] theorem ALoan.clen (x : ALoan) : (ALoan.dv x).cells.length = 25 := rfl
@[simp] theorem ALoan.aof (x : ALoan) : DV.a (ALoan.cells x) = ALoan.dv x := rfl
@[simp] theorem ALoan.ccl (x : ALoan) : (ALoan.cells x).length = 25 := rfl
@[simp] theorem ALoan.n11_12 (x : ALoan) : ((ALoan.dv x).cells.drop 11).take 12 = ATerms.cells x.Terms := rfl
@[simp] theorem ALoan.c0 (x : ALoan) : (ALoan.dv x).cells[0]? = some (I x.Id) := rfl
@[simp] theorem ALoan.c1 (x : ALoan) : (ALoan.dv x).cells[1]? = some (I x.Account) := rfl
@[simp] theorem ALoan.c2 (x : ALoan) : (ALoan.dv x).cells[2]? = some (I x.State) := rfl
@[simp] theorem ALoan.c3 (x : ALoan) : (ALoan.dv x).cells[3]? = some (I x.PaidPrincipal) := rfl
@[simp] theorem ALoan.c4 (x : ALoan) : (ALoan.dv x).cells[4]? = some (I x.PaidInterest) := rfl
@[simp] theorem ALoan.c5 (x : ALoan) : (ALoan.dv x).cells[5]? = some (I x.Fee) := rfl
@[simp] theorem ALoan.c6 (x : ALoan) : (ALoan.dv x).cells[6]? = some (I x.Penalty) := rfl
@[simp] theorem ALoan.c7 (x : ALoan) : (ALoan.dv x).cells[7]? = some (I x.Charged) := rfl
@[simp] theorem ALoan.c8 (x : ALoan) : (ALoan.dv x).cells[8]? = some (I x.Provision) := rfl
@[simp] theorem ALoan.c9 (x : ALoan) : (ALoan.dv x).cells[9]? = some (I x.Loss) := rfl
@[simp] theorem ALoan.c10 (x : ALoan) : (ALoan.dv x).cells[10]? = some (I x.Recovered) := rfl
@[simp] theorem ALoan.c11 (x : ALoan) : (ALoan.dv x).cells[11]? = some (I x.Terms.Method) := rfl
@[simp] theorem ALoan.c12 (x : ALoan) : (ALoan.dv x).cells[12]? = some (I x.Terms.Principal) := rfl
@[simp] theorem ALoan.c13 (x : ALoan) : (ALoan.dv x).cells[13]? = some (I x.Terms.Ppm) := rfl
@[simp] theorem ALoan.c14 (x : ALoan) : (ALoan.dv x).cells[14]? = some (I x.Terms.Start) := rfl
@[simp] theorem ALoan.c15 (x : ALoan) : (ALoan.dv x).cells[15]? = some (I x.Terms.Every) := rfl
@[simp] theorem ALoan.c16 (x : ALoan) : (ALoan.dv x).cells[16]? = some (I x.Terms.Count) := rfl
@[simp] theorem ALoan.c17 (x : ALoan) : (ALoan.dv x).cells[17]? = some (I x.Terms.Balloon) := rfl
@[simp] theorem ALoan.c18 (x : ALoan) : (ALoan.dv x).cells[18]? = some (I x.Terms.Mode) := rfl
@[simp] theorem ALoan.c19 (x : ALoan) : (ALoan.dv x).cells[19]? = some (I x.Terms.PenaltyPpm) := rfl
@[simp] theorem ALoan.c20 (x : ALoan) : (ALoan.dv x).cells[20]? = some (I x.Terms.FeePpm) := rfl
@[simp] theorem ALoan.c21 (x : ALoan) : (ALoan.dv x).cells[21]? = some (.s x.Terms.Calendar) := rfl
@[simp] theorem ALoan.c22 (x : ALoan) : (ALoan.dv x).cells[22]? = some (.s x.Terms.Currency) := rfl
@[simp] theorem ALoan.c23 (x : ALoan) : (ALoan.dv x).cells[23]? = some (.l (K1 4) (x.Dues.l.map ADue.dv) x.Dues.t) := rfl
@[simp] theorem ALoan.c24 (x : ALoan) : (ALoan.dv x).cells[24]? = some (.l (K1 14) (x.Changes.l.map AChange.dv) x.Changes.t) := rfl
structure AOrder where
 Id : Int
 From : Int
 To : Int
 Amount : Int
 Day : Int
 Every : Int
 Anchor : Int
 Until : Int
 Tries : Int
 Text : List UInt8
def AOrder.cells (x : AOrder) : List DV := [I x.Id, I x.From, I x.To, I x.Amount, I x.Day, I x.Every, I x.Anchor, I x.Until, I x.Tries, .s x.Text]
def AOrder.dv (x : AOrder) : DV := .a [I x.Id, I x.From, I x.To, I x.Amount, I x.Day, I x.Every, I x.Anchor, I x.Until, I x.Tries, .s x.Text]
@[simp] theorem AOrder.fits (x : AOrder) : Sim.fits (K1 10) (.d (AOrder.dv x)) = true := rfl
@[simp] theorem AOrder.purT (x : AOrder) (H : Heap) : Sim.purT H (.d (AOrder.dv x)) = some (.d (AOrder.dv x), false) := rfl
@[simp] theorem AOrder.clen (x : AOrder) : (AOrder.dv x).cells.length = 10 := rfl
@[simp] theorem AOrder.aof (x : AOrder) : DV.a (AOrder.cells x) = AOrder.dv x := rfl
@[simp] theorem AOrder.ccl (x : AOrder) : (AOrder.cells x).length = 10 := rfl
@[simp] theorem AOrder.c0 (x : AOrder) : (AOrder.dv x).cells[0]? = some (I x.Id) := rfl
@[simp] theorem AOrder.c1 (x : AOrder) : (AOrder.dv x).cells[1]? = some (I x.From) := rfl
@[simp] theorem AOrder.c2 (x : AOrder) : (AOrder.dv x).cells[2]? = some (I x.To) := rfl
@[simp] theorem AOrder.c3 (x : AOrder) : (AOrder.dv x).cells[3]? = some (I x.Amount) := rfl
@[simp] theorem AOrder.c4 (x : AOrder) : (AOrder.dv x).cells[4]? = some (I x.Day) := rfl
@[simp] theorem AOrder.c5 (x : AOrder) : (AOrder.dv x).cells[5]? = some (I x.Every) := rfl
@[simp] theorem AOrder.c6 (x : AOrder) : (AOrder.dv x).cells[6]? = some (I x.Anchor) := rfl
@[simp] theorem AOrder.c7 (x : AOrder) : (AOrder.dv x).cells[7]? = some (I x.Until) := rfl
@[simp] theorem AOrder.c8 (x : AOrder) : (AOrder.dv x).cells[8]? = some (I x.Tries) := rfl
@[simp] theorem AOrder.c9 (x : AOrder) : (AOrder.dv x).cells[9]? = some (.s x.Text) := rfl
structure AMandate where
 Id : Int
 Account : Int
 Limit : Int
 Signed : Int
 Used : Int
 Revoked : Int
 Creditor : List UInt8
def AMandate.cells (x : AMandate) : List DV := [I x.Id, I x.Account, I x.Limit, I x.Signed, I x.Used, I x.Revoked, .s x.Creditor]
def AMandate.dv (x : AMandate) : DV := .a [I x.Id, I x.Account, I x.Limit, I x.Signed, I x.Used, I x.Revoked, .s x.Creditor]
@[simp] theorem AMandate.fits (x : AMandate) : Sim.fits (K1 7) (.d (AMandate.dv x)) = true := rfl
@[simp] theorem AMandate.purT (x : AMandate) (H : Heap) : Sim.purT H (.d (AMandate.dv x)) = some (.d (AMandate.dv x), false) := rfl
@[simp] theorem AMandate.clen (x : AMandate) : (AMandate.dv x).cells.length = 7 := rfl
@[simp] theorem AMandate.aof (x : AMandate) : DV.a (AMandate.cells x) = AMandate.dv x := rfl
@[simp] theorem AMandate.ccl (x : AMandate) : (AMandate.cells x).length = 7 := rfl
@[simp] theorem AMandate.c0 (x : AMandate) : (AMandate.dv x).cells[0]? = some (I x.Id) := rfl
@[simp] theorem AMandate.c1 (x : AMandate) : (AMandate.dv x).cells[1]? = some (I x.Account) := rfl
@[simp] theorem AMandate.c2 (x : AMandate) : (AMandate.dv x).cells[2]? = some (I x.Limit) := rfl
@[simp] theorem AMandate.c3 (x : AMandate) : (AMandate.dv x).cells[3]? = some (I x.Signed) := rfl
@[simp] theorem AMandate.c4 (x : AMandate) : (AMandate.dv x).cells[4]? = some (I x.Used) := rfl
@[simp] theorem AMandate.c5 (x : AMandate) : (AMandate.dv x).cells[5]? = some (I x.Revoked) := rfl
@[simp] theorem AMandate.c6 (x : AMandate) : (AMandate.dv x).cells[6]? = some (.s x.Creditor) := rfl
structure ADebit where
 Id : Int
 Mandate : Int
 Amount : Int
 Day : Int
 Settled : Int
 Returned : Int
 Reason : Int
 State : Int
 Key : List UInt8
def ADebit.cells (x : ADebit) : List DV := [I x.Id, I x.Mandate, I x.Amount, I x.Day, I x.Settled, I x.Returned, I x.Reason, I x.State, .s x.Key]
def ADebit.dv (x : ADebit) : DV := .a [I x.Id, I x.Mandate, I x.Amount, I x.Day, I x.Settled, I x.Returned, I x.Reason, I x.State, .s x.Key]
@[simp] theorem ADebit.fits (x : ADebit) : Sim.fits (K1 9) (.d (ADebit.dv x)) = true := rfl
@[simp] theorem ADebit.purT (x : ADebit) (H : Heap) : Sim.purT H (.d (ADebit.dv x)) = some (.d (ADebit.dv x), false) := rfl
@[simp] theorem ADebit.clen (x : ADebit) : (ADebit.dv x).cells.length = 9 := rfl
@[simp] theorem ADebit.aof (x : ADebit) : DV.a (ADebit.cells x) = ADebit.dv x := rfl
@[simp] theorem ADebit.ccl (x : ADebit) : (ADebit.cells x).length = 9 := rfl
@[simp] theorem ADebit.c0 (x : ADebit) : (ADebit.dv x).cells[0]? = some (I x.Id) := rfl
@[simp] theorem ADebit.c1 (x : ADebit) : (ADebit.dv x).cells[1]? = some (I x.Mandate) := rfl
@[simp] theorem ADebit.c2 (x : ADebit) : (ADebit.dv x).cells[2]? = some (I x.Amount) := rfl
@[simp] theorem ADebit.c3 (x : ADebit) : (ADebit.dv x).cells[3]? = some (I x.Day) := rfl
@[simp] theorem ADebit.c4 (x : ADebit) : (ADebit.dv x).cells[4]? = some (I x.Settled) := rfl
@[simp] theorem ADebit.c5 (x : ADebit) : (ADebit.dv x).cells[5]? = some (I x.Returned) := rfl
@[simp] theorem ADebit.c6 (x : ADebit) : (ADebit.dv x).cells[6]? = some (I x.Reason) := rfl
@[simp] theorem ADebit.c7 (x : ADebit) : (ADebit.dv x).cells[7]? = some (I x.State) := rfl
@[simp] theorem ADebit.c8 (x : ADebit) : (ADebit.dv x).cells[8]? = some (.s x.Key) := rfl
structure AMessage where
 Sender : List UInt8
 Seq : Int
 Kind : Int
 Account : Int
 Amount : Int
 Day : Int
 Text : List UInt8
def AMessage.cells (x : AMessage) : List DV := [.s x.Sender, I x.Seq, I x.Kind, I x.Account, I x.Amount, I x.Day, .s x.Text]
def AMessage.dv (x : AMessage) : DV := .a [.s x.Sender, I x.Seq, I x.Kind, I x.Account, I x.Amount, I x.Day, .s x.Text]
@[simp] theorem AMessage.fits (x : AMessage) : Sim.fits (K1 7) (.d (AMessage.dv x)) = true := rfl
@[simp] theorem AMessage.purT (x : AMessage) (H : Heap) : Sim.purT H (.d (AMessage.dv x)) = some (.d (AMessage.dv x), false) := rfl
@[simp] theorem AMessage.clen (x : AMessage) : (AMessage.dv x).cells.length = 7 := rfl
@[simp] theorem AMessage.aof (x : AMessage) : DV.a (AMessage.cells x) = AMessage.dv x := rfl
@[simp] theorem AMessage.ccl (x : AMessage) : (AMessage.cells x).length = 7 := rfl
@[simp] theorem AMessage.c0 (x : AMessage) : (AMessage.dv x).cells[0]? = some (.s x.Sender) := rfl
@[simp] theorem AMessage.c1 (x : AMessage) : (AMessage.dv x).cells[1]? = some (I x.Seq) := rfl
@[simp] theorem AMessage.c2 (x : AMessage) : (AMessage.dv x).cells[2]? = some (I x.Kind) := rfl
@[simp] theorem AMessage.c3 (x : AMessage) : (AMessage.dv x).cells[3]? = some (I x.Account) := rfl
@[simp] theorem AMessage.c4 (x : AMessage) : (AMessage.dv x).cells[4]? = some (I x.Amount) := rfl
@[simp] theorem AMessage.c5 (x : AMessage) : (AMessage.dv x).cells[5]? = some (I x.Day) := rfl
@[simp] theorem AMessage.c6 (x : AMessage) : (AMessage.dv x).cells[6]? = some (.s x.Text) := rfl
structure APosting where
 Entry : Int
 Day : Int
 Amount : Int
 Text : List UInt8
def APosting.cells (x : APosting) : List DV := [I x.Entry, I x.Day, I x.Amount, .s x.Text]
def APosting.dv (x : APosting) : DV := .a [I x.Entry, I x.Day, I x.Amount, .s x.Text]
@[simp] theorem APosting.fits (x : APosting) : Sim.fits (K1 4) (.d (APosting.dv x)) = true := rfl
@[simp] theorem APosting.purT (x : APosting) (H : Heap) : Sim.purT H (.d (APosting.dv x)) = some (.d (APosting.dv x), false) := rfl
@[simp] theorem APosting.clen (x : APosting) : (APosting.dv x).cells.length = 4 := rfl
@[simp] theorem APosting.aof (x : APosting) : DV.a (APosting.cells x) = APosting.dv x := rfl
@[simp] theorem APosting.ccl (x : APosting) : (APosting.cells x).length = 4 := rfl
@[simp] theorem APosting.c0 (x : APosting) : (APosting.dv x).cells[0]? = some (I x.Entry) := rfl
@[simp] theorem APosting.c1 (x : APosting) : (APosting.dv x).cells[1]? = some (I x.Day) := rfl
@[simp] theorem APosting.c2 (x : APosting) : (APosting.dv x).cells[2]? = some (I x.Amount) := rfl
@[simp] theorem APosting.c3 (x : APosting) : (APosting.dv x).cells[3]? = some (.s x.Text) := rfl
structure AStatement where
 Account : Int
 No : Int
 From : Int
 To : Int
 Opening : Int
 Closing : Int
 Lines : SL APosting
def AStatement.cells (x : AStatement) : List DV := [I x.Account, I x.No, I x.From, I x.To, I x.Opening, I x.Closing, .l (K1 4) (x.Lines.l.map APosting.dv) x.Lines.t]
def AStatement.dv (x : AStatement) : DV := .a [I x.Account, I x.No, I x.From, I x.To, I x.Opening, I x.Closing, .l (K1 4) (x.Lines.l.map APosting.dv) x.Lines.t]
@[simp] theorem AStatement.fits (x : AStatement) : Sim.fits (K1 7) (.d (AStatement.dv x)) = true := rfl
@[simp] theorem AStatement.purT (x : AStatement) (H : Heap) : Sim.purT H (.d (AStatement.dv x)) = some (.d (AStatement.dv x), false) := rfl
@[simp] theorem AStatement.clen (x : AStatement) : (AStatement.dv x).cells.length = 7 := rfl
@[simp] theorem AStatement.aof (x : AStatement) : DV.a (AStatement.cells x) = AStatement.dv x := rfl
@[simp] theorem AStatement.ccl (x : AStatement) : (AStatement.cells x).length = 7 := rfl
@[simp] theorem AStatement.c0 (x : AStatement) : (AStatement.dv x).cells[0]? = some (I x.Account) := rfl
@[simp] theorem AStatement.c1 (x : AStatement) : (AStatement.dv x).cells[1]? = some (I x.No) := rfl
@[simp] theorem AStatement.c2 (x : AStatement) : (AStatement.dv x).cells[2]? = some (I x.From) := rfl
@[simp] theorem AStatement.c3 (x : AStatement) : (AStatement.dv x).cells[3]? = some (I x.To) := rfl
@[simp] theorem AStatement.c4 (x : AStatement) : (AStatement.dv x).cells[4]? = some (I x.Opening) := rfl
@[simp] theorem AStatement.c5 (x : AStatement) : (AStatement.dv x).cells[5]? = some (I x.Closing) := rfl
@[simp] theorem AStatement.c6 (x : AStatement) : (AStatement.dv x).cells[6]? = some (.l (K1 4) (x.Lines.l.map APosting.dv) x.Lines.t) := rfl
structure AUser where
 Name : List UInt8
 Rights : Int
 Limit : Int
def AUser.cells (x : AUser) : List DV := [.s x.Name, I x.Rights, I x.Limit]
def AUser.dv (x : AUser) : DV := .a [.s x.Name, I x.Rights, I x.Limit]
@[simp] theorem AUser.fits (x : AUser) : Sim.fits (K1 3) (.d (AUser.dv x)) = true := rfl
@[simp] theorem AUser.purT (x : AUser) (H : Heap) : Sim.purT H (.d (AUser.dv x)) = some (.d (AUser.dv x), false) := rfl
@[simp] theorem AUser.clen (x : AUser) : (AUser.dv x).cells.length = 3 := rfl
@[simp] theorem AUser.aof (x : AUser) : DV.a (AUser.cells x) = AUser.dv x := rfl
@[simp] theorem AUser.ccl (x : AUser) : (AUser.cells x).length = 3 := rfl
@[simp] theorem AUser.c0 (x : AUser) : (AUser.dv x).cells[0]? = some (.s x.Name) := rfl
@[simp] theorem AUser.c1 (x : AUser) : (AUser.dv x).cells[1]? = some (I x.Rights) := rfl
@[simp] theorem AUser.c2 (x : AUser) : (AUser.dv x).cells[2]? = some (I x.Limit) := rfl
structure ACommand where
 Kind : Int
 Account : Int
 Other : Int
 Amount : Int
 Value : Int
 Number : Int
 User : List UInt8
 Key : List UInt8
 Text : List UInt8
 Terms : ATerms
 Message : AMessage
 Crashes : SL Int
def ACommand.cells (x : ACommand) : List DV := [I x.Kind, I x.Account, I x.Other, I x.Amount, I x.Value, I x.Number, .s x.User, .s x.Key, .s x.Text, I x.Terms.Method, I x.Terms.Principal, I x.Terms.Ppm, I x.Terms.Start, I x.Terms.Every, I x.Terms.Count, I x.Terms.Balloon, I x.Terms.Mode, I x.Terms.PenaltyPpm, I x.Terms.FeePpm, .s x.Terms.Calendar, .s x.Terms.Currency, .s x.Message.Sender, I x.Message.Seq, I x.Message.Kind, I x.Message.Account, I x.Message.Amount, I x.Message.Day, .s x.Message.Text, .l K0 (x.Crashes.l.map I) x.Crashes.t]
def ACommand.dv (x : ACommand) : DV := .a [I x.Kind, I x.Account, I x.Other, I x.Amount, I x.Value, I x.Number, .s x.User, .s x.Key, .s x.Text, I x.Terms.Method, I x.Terms.Principal, I x.Terms.Ppm, I x.Terms.Start, I x.Terms.Every, I x.Terms.Count, I x.Terms.Balloon, I x.Terms.Mode, I x.Terms.PenaltyPpm, I x.Terms.FeePpm, .s x.Terms.Calendar, .s x.Terms.Currency, .s x.Message.Sender, I x.Message.Seq, I x.Message.Kind, I x.Message.Account, I x.Message.Amount, I x.Message.Day, .s x.Message.Text, .l K0 (x.Crashes.l.map I) x.Crashes.t]
@[simp] theorem ACommand.fits (x : ACommand) : Sim.fits (K1 29) (.d (ACommand.dv x)) = true := rfl
@[simp] theorem ACommand.purT (x : ACommand) (H : Heap) : Sim.purT H (.d (ACommand.dv x)) = some (.d (ACommand.dv x), false) := rfl
@[simp] theorem ACommand.clen (x : ACommand) : (ACommand.dv x).cells.length = 29 := rfl
@[simp] theorem ACommand.aof (x : ACommand) : DV.a (ACommand.cells x) = ACommand.dv x := rfl
@[simp] theorem ACommand.ccl (x : ACommand) : (ACommand.cells x).length = 29 := rfl
@[simp] theorem ACommand.n9_12 (x : ACommand) : ((ACommand.dv x).cells.drop 9).take 12 = ATerms.cells x.Terms := rfl
@[simp] theorem ACommand.n21_7 (x : ACommand) : ((ACommand.dv x).cells.drop 21).take 7 = AMessage.cells x.Message := rfl
@[simp] theorem ACommand.c0 (x : ACommand) : (ACommand.dv x).cells[0]? = some (I x.Kind) := rfl
@[simp] theorem ACommand.c1 (x : ACommand) : (ACommand.dv x).cells[1]? = some (I x.Account) := rfl
@[simp] theorem ACommand.c2 (x : ACommand) : (ACommand.dv x).cells[2]? = some (I x.Other) := rfl
@[simp] theorem ACommand.c3 (x : ACommand) : (ACommand.dv x).cells[3]? = some (I x.Amount) := rfl
@[simp] theorem ACommand.c4 (x : ACommand) : (ACommand.dv x).cells[4]? = some (I x.Value) := rfl
@[simp] theorem ACommand.c5 (x : ACommand) : (ACommand.dv x).cells[5]? = some (I x.Number) := rfl
@[simp] theorem ACommand.c6 (x : ACommand) : (ACommand.dv x).cells[6]? = some (.s x.User) := rfl
@[simp] theorem ACommand.c7 (x : ACommand) : (ACommand.dv x).cells[7]? = some (.s x.Key) := rfl
@[simp] theorem ACommand.c8 (x : ACommand) : (ACommand.dv x).cells[8]? = some (.s x.Text) := rfl
@[simp] theorem ACommand.c9 (x : ACommand) : (ACommand.dv x).cells[9]? = some (I x.Terms.Method) := rfl
@[simp] theorem ACommand.c10 (x : ACommand) : (ACommand.dv x).cells[10]? = some (I x.Terms.Principal) := rfl
@[simp] theorem ACommand.c11 (x : ACommand) : (ACommand.dv x).cells[11]? = some (I x.Terms.Ppm) := rfl
@[simp] theorem ACommand.c12 (x : ACommand) : (ACommand.dv x).cells[12]? = some (I x.Terms.Start) := rfl
@[simp] theorem ACommand.c13 (x : ACommand) : (ACommand.dv x).cells[13]? = some (I x.Terms.Every) := rfl
@[simp] theorem ACommand.c14 (x : ACommand) : (ACommand.dv x).cells[14]? = some (I x.Terms.Count) := rfl
@[simp] theorem ACommand.c15 (x : ACommand) : (ACommand.dv x).cells[15]? = some (I x.Terms.Balloon) := rfl
@[simp] theorem ACommand.c16 (x : ACommand) : (ACommand.dv x).cells[16]? = some (I x.Terms.Mode) := rfl
@[simp] theorem ACommand.c17 (x : ACommand) : (ACommand.dv x).cells[17]? = some (I x.Terms.PenaltyPpm) := rfl
@[simp] theorem ACommand.c18 (x : ACommand) : (ACommand.dv x).cells[18]? = some (I x.Terms.FeePpm) := rfl
@[simp] theorem ACommand.c19 (x : ACommand) : (ACommand.dv x).cells[19]? = some (.s x.Terms.Calendar) := rfl
@[simp] theorem ACommand.c20 (x : ACommand) : (ACommand.dv x).cells[20]? = some (.s x.Terms.Currency) := rfl
@[simp] theorem ACommand.c21 (x : ACommand) : (ACommand.dv x).cells[21]? = some (.s x.Message.Sender) := rfl
@[simp] theorem ACommand.c22 (x : ACommand) : (ACommand.dv x).cells[22]? = some (I x.Message.Seq) := rfl
@[simp] theorem ACommand.c23 (x : ACommand) : (ACommand.dv x).cells[23]? = some (I x.Message.Kind) := rfl
@[simp] theorem ACommand.c24 (x : ACommand) : (ACommand.dv x).cells[24]? = some (I x.Message.Account) := rfl
@[simp] theorem ACommand.c25 (x : ACommand) : (ACommand.dv x).cells[25]? = some (I x.Message.Amount) := rfl
@[simp] theorem ACommand.c26 (x : ACommand) : (ACommand.dv x).cells[26]? = some (I x.Message.Day) := rfl
@[simp] theorem ACommand.c27 (x : ACommand) : (ACommand.dv x).cells[27]? = some (.s x.Message.Text) := rfl
@[simp] theorem ACommand.c28 (x : ACommand) : (ACommand.dv x).cells[28]? = some (.l K0 (x.Crashes.l.map I) x.Crashes.t) := rfl
structure ARequest where
 Id : Int
 Day : Int
 Until : Int
 State : Int
 Maker : List UInt8
 Checker : List UInt8
 Command : ACommand
def ARequest.cells (x : ARequest) : List DV := [I x.Id, I x.Day, I x.Until, I x.State, .s x.Maker, .s x.Checker, I x.Command.Kind, I x.Command.Account, I x.Command.Other, I x.Command.Amount, I x.Command.Value, I x.Command.Number, .s x.Command.User, .s x.Command.Key, .s x.Command.Text, I x.Command.Terms.Method, I x.Command.Terms.Principal, I x.Command.Terms.Ppm, I x.Command.Terms.Start, I x.Command.Terms.Every, I x.Command.Terms.Count, I x.Command.Terms.Balloon, I x.Command.Terms.Mode, I x.Command.Terms.PenaltyPpm, I x.Command.Terms.FeePpm, .s x.Command.Terms.Calendar, .s x.Command.Terms.Currency, .s x.Command.Message.Sender, I x.Command.Message.Seq, I x.Command.Message.Kind, I x.Command.Message.Account, I x.Command.Message.Amount, I x.Command.Message.Day, .s x.Command.Message.Text, .l K0 (x.Command.Crashes.l.map I) x.Command.Crashes.t]
def ARequest.dv (x : ARequest) : DV := .a [I x.Id, I x.Day, I x.Until, I x.State, .s x.Maker, .s x.Checker, I x.Command.Kind, I x.Command.Account, I x.Command.Other, I x.Command.Amount, I x.Command.Value, I x.Command.Number, .s x.Command.User, .s x.Command.Key, .s x.Command.Text, I x.Command.Terms.Method, I x.Command.Terms.Principal, I x.Command.Terms.Ppm, I x.Command.Terms.Start, I x.Command.Terms.Every, I x.Command.Terms.Count, I x.Command.Terms.Balloon, I x.Command.Terms.Mode, I x.Command.Terms.PenaltyPpm, I x.Command.Terms.FeePpm, .s x.Command.Terms.Calendar, .s x.Command.Terms.Currency, .s x.Command.Message.Sender, I x.Command.Message.Seq, I x.Command.Message.Kind, I x.Command.Message.Account, I x.Command.Message.Amount, I x.Command.Message.Day, .s x.Command.Message.Text, .l K0 (x.Command.Crashes.l.map I) x.Command.Crashes.t]
@[simp] theorem ARequest.fits (x : ARequest) : Sim.fits (K1 35) (.d (ARequest.dv x)) = true := rfl
@[simp] theorem ARequest.purT (x : ARequest) (H : Heap) : Sim.purT H (.d (ARequest.dv x)) = some (.d (ARequest.dv x), false) := rfl
@[simp] theorem ARequest.clen (x : ARequest) : (ARequest.dv x).cells.length = 35 := rfl
@[simp] theorem ARequest.aof (x : ARequest) : DV.a (ARequest.cells x) = ARequest.dv x := rfl
@[simp] theorem ARequest.ccl (x : ARequest) : (ARequest.cells x).length = 35 := rfl
@[simp] theorem ARequest.n6_29 (x : ARequest) : ((ARequest.dv x).cells.drop 6).take 29 = ACommand.cells x.Command := rfl
@[simp] theorem ARequest.n15_12 (x : ARequest) : ((ARequest.dv x).cells.drop 15).take 12 = ATerms.cells x.Command.Terms := rfl
@[simp] theorem ARequest.n27_7 (x : ARequest) : ((ARequest.dv x).cells.drop 27).take 7 = AMessage.cells x.Command.Message := rfl
@[simp] theorem ARequest.c0 (x : ARequest) : (ARequest.dv x).cells[0]? = some (I x.Id) := rfl
@[simp] theorem ARequest.c1 (x : ARequest) : (ARequest.dv x).cells[1]? = some (I x.Day) := rfl
@[simp] theorem ARequest.c2 (x : ARequest) : (ARequest.dv x).cells[2]? = some (I x.Until) := rfl
@[simp] theorem ARequest.c3 (x : ARequest) : (ARequest.dv x).cells[3]? = some (I x.State) := rfl
@[simp] theorem ARequest.c4 (x : ARequest) : (ARequest.dv x).cells[4]? = some (.s x.Maker) := rfl
@[simp] theorem ARequest.c5 (x : ARequest) : (ARequest.dv x).cells[5]? = some (.s x.Checker) := rfl
@[simp] theorem ARequest.c6 (x : ARequest) : (ARequest.dv x).cells[6]? = some (I x.Command.Kind) := rfl
@[simp] theorem ARequest.c7 (x : ARequest) : (ARequest.dv x).cells[7]? = some (I x.Command.Account) := rfl
@[simp] theorem ARequest.c8 (x : ARequest) : (ARequest.dv x).cells[8]? = some (I x.Command.Other) := rfl
@[simp] theorem ARequest.c9 (x : ARequest) : (ARequest.dv x).cells[9]? = some (I x.Command.Amount) := rfl
@[simp] theorem ARequest.c10 (x : ARequest) : (ARequest.dv x).cells[10]? = some (I x.Command.Value) := rfl
@[simp] theorem ARequest.c11 (x : ARequest) : (ARequest.dv x).cells[11]? = some (I x.Command.Number) := rfl
@[simp] theorem ARequest.c12 (x : ARequest) : (ARequest.dv x).cells[12]? = some (.s x.Command.User) := rfl
@[simp] theorem ARequest.c13 (x : ARequest) : (ARequest.dv x).cells[13]? = some (.s x.Command.Key) := rfl
@[simp] theorem ARequest.c14 (x : ARequest) : (ARequest.dv x).cells[14]? = some (.s x.Command.Text) := rfl
@[simp] theorem ARequest.c15 (x : ARequest) : (ARequest.dv x).cells[15]? = some (I x.Command.Terms.Method) := rfl
@[simp] theorem ARequest.c16 (x : ARequest) : (ARequest.dv x).cells[16]? = some (I x.Command.Terms.Principal) := rfl
@[simp] theorem ARequest.c17 (x : ARequest) : (ARequest.dv x).cells[17]? = some (I x.Command.Terms.Ppm) := rfl
@[simp] theorem ARequest.c18 (x : ARequest) : (ARequest.dv x).cells[18]? = some (I x.Command.Terms.Start) := rfl
@[simp] theorem ARequest.c19 (x : ARequest) : (ARequest.dv x).cells[19]? = some (I x.Command.Terms.Every) := rfl
@[simp] theorem ARequest.c20 (x : ARequest) : (ARequest.dv x).cells[20]? = some (I x.Command.Terms.Count) := rfl
@[simp] theorem ARequest.c21 (x : ARequest) : (ARequest.dv x).cells[21]? = some (I x.Command.Terms.Balloon) := rfl
@[simp] theorem ARequest.c22 (x : ARequest) : (ARequest.dv x).cells[22]? = some (I x.Command.Terms.Mode) := rfl
@[simp] theorem ARequest.c23 (x : ARequest) : (ARequest.dv x).cells[23]? = some (I x.Command.Terms.PenaltyPpm) := rfl
@[simp] theorem ARequest.c24 (x : ARequest) : (ARequest.dv x).cells[24]? = some (I x.Command.Terms.FeePpm) := rfl
@[simp] theorem ARequest.c25 (x : ARequest) : (ARequest.dv x).cells[25]? = some (.s x.Command.Terms.Calendar) := rfl
@[simp] theorem ARequest.c26 (x : ARequest) : (ARequest.dv x).cells[26]? = some (.s x.Command.Terms.Currency) := rfl
@[simp] theorem ARequest.c27 (x : ARequest) : (ARequest.dv x).cells[27]? = some (.s x.Command.Message.Sender) := rfl
@[simp] theorem ARequest.c28 (x : ARequest) : (ARequest.dv x).cells[28]? = some (I x.Command.Message.Seq) := rfl
@[simp] theorem ARequest.c29 (x : ARequest) : (ARequest.dv x).cells[29]? = some (I x.Command.Message.Kind) := rfl
@[simp] theorem ARequest.c30 (x : ARequest) : (ARequest.dv x).cells[30]? = some (I x.Command.Message.Account) := rfl
@[simp] theorem ARequest.c31 (x : ARequest) : (ARequest.dv x).cells[31]? = some (I x.Command.Message.Amount) := rfl
@[simp] theorem ARequest.c32 (x : ARequest) : (ARequest.dv x).cells[32]? = some (I x.Command.Message.Day) := rfl
@[simp] theorem ARequest.c33 (x : ARequest) : (ARequest.dv x).cells[33]? = some (.s x.Command.Message.Text) := rfl
@[simp] theorem ARequest.c34 (x : ARequest) : (ARequest.dv x).cells[34]? = some (.l K0 (x.Command.Crashes.l.map I) x.Command.Crashes.t) := rfl
structure AMark where
 Day : Int
 User : List UInt8
 Action : List UInt8
 Object : List UInt8
 Chain : Int
def AMark.cells (x : AMark) : List DV := [I x.Day, .s x.User, .s x.Action, .s x.Object, .i .u64 x.Chain]
def AMark.dv (x : AMark) : DV := .a [I x.Day, .s x.User, .s x.Action, .s x.Object, .i .u64 x.Chain]
@[simp] theorem AMark.fits (x : AMark) : Sim.fits (K1 5) (.d (AMark.dv x)) = true := rfl
@[simp] theorem AMark.purT (x : AMark) (H : Heap) : Sim.purT H (.d (AMark.dv x)) = some (.d (AMark.dv x), false) := rfl
@[simp] theorem AMark.clen (x : AMark) : (AMark.dv x).cells.length = 5 := rfl
@[simp] theorem AMark.aof (x : AMark) : DV.a (AMark.cells x) = AMark.dv x := rfl
@[simp] theorem AMark.ccl (x : AMark) : (AMark.cells x).length = 5 := rfl
@[simp] theorem AMark.c0 (x : AMark) : (AMark.dv x).cells[0]? = some (I x.Day) := rfl
@[simp] theorem AMark.c1 (x : AMark) : (AMark.dv x).cells[1]? = some (.s x.User) := rfl
@[simp] theorem AMark.c2 (x : AMark) : (AMark.dv x).cells[2]? = some (.s x.Action) := rfl
@[simp] theorem AMark.c3 (x : AMark) : (AMark.dv x).cells[3]? = some (.s x.Object) := rfl
@[simp] theorem AMark.c4 (x : AMark) : (AMark.dv x).cells[4]? = some (.i .u64 x.Chain) := rfl
structure ARun where
 Active : Bool
 Next : Int
 Shards : Int
 Restarts : Int
def ARun.cells (x : ARun) : List DV := [.b x.Active, I x.Next, I x.Shards, I x.Restarts]
def ARun.dv (x : ARun) : DV := .a [.b x.Active, I x.Next, I x.Shards, I x.Restarts]
@[simp] theorem ARun.fits (x : ARun) : Sim.fits (K1 4) (.d (ARun.dv x)) = true := rfl
@[simp] theorem ARun.purT (x : ARun) (H : Heap) : Sim.purT H (.d (ARun.dv x)) = some (.d (ARun.dv x), false) := rfl
@[simp] theorem ARun.clen (x : ARun) : (ARun.dv x).cells.length = 4 := rfl
@[simp] theorem ARun.aof (x : ARun) : DV.a (ARun.cells x) = ARun.dv x := rfl
@[simp] theorem ARun.ccl (x : ARun) : (ARun.cells x).length = 4 := rfl
@[simp] theorem ARun.c0 (x : ARun) : (ARun.dv x).cells[0]? = some (.b x.Active) := rfl
@[simp] theorem ARun.c1 (x : ARun) : (ARun.dv x).cells[1]? = some (I x.Next) := rfl
@[simp] theorem ARun.c2 (x : ARun) : (ARun.dv x).cells[2]? = some (I x.Shards) := rfl
@[simp] theorem ARun.c3 (x : ARun) : (ARun.dv x).cells[3]? = some (I x.Restarts) := rfl
structure AAvail where
 Account : Int
 Amount : Int
 Used : Int
def AAvail.cells (x : AAvail) : List DV := [I x.Account, I x.Amount, I x.Used]
def AAvail.dv (x : AAvail) : DV := .a [I x.Account, I x.Amount, I x.Used]
@[simp] theorem AAvail.fits (x : AAvail) : Sim.fits (K1 3) (.d (AAvail.dv x)) = true := rfl
@[simp] theorem AAvail.purT (x : AAvail) (H : Heap) : Sim.purT H (.d (AAvail.dv x)) = some (.d (AAvail.dv x), false) := rfl
@[simp] theorem AAvail.clen (x : AAvail) : (AAvail.dv x).cells.length = 3 := rfl
@[simp] theorem AAvail.aof (x : AAvail) : DV.a (AAvail.cells x) = AAvail.dv x := rfl
@[simp] theorem AAvail.ccl (x : AAvail) : (AAvail.cells x).length = 3 := rfl
@[simp] theorem AAvail.c0 (x : AAvail) : (AAvail.dv x).cells[0]? = some (I x.Account) := rfl
@[simp] theorem AAvail.c1 (x : AAvail) : (AAvail.dv x).cells[1]? = some (I x.Amount) := rfl
@[simp] theorem AAvail.c2 (x : AAvail) : (AAvail.dv x).cells[2]? = some (I x.Used) := rfl
structure AWait where
 Account : Int
 Amount : Int
 Key : List UInt8
def AWait.cells (x : AWait) : List DV := [I x.Account, I x.Amount, .s x.Key]
def AWait.dv (x : AWait) : DV := .a [I x.Account, I x.Amount, .s x.Key]
@[simp] theorem AWait.fits (x : AWait) : Sim.fits (K1 3) (.d (AWait.dv x)) = true := rfl
@[simp] theorem AWait.purT (x : AWait) (H : Heap) : Sim.purT H (.d (AWait.dv x)) = some (.d (AWait.dv x), false) := rfl
@[simp] theorem AWait.clen (x : AWait) : (AWait.dv x).cells.length = 3 := rfl
@[simp] theorem AWait.aof (x : AWait) : DV.a (AWait.cells x) = AWait.dv x := rfl
@[simp] theorem AWait.ccl (x : AWait) : (AWait.cells x).length = 3 := rfl
@[simp] theorem AWait.c0 (x : AWait) : (AWait.dv x).cells[0]? = some (I x.Account) := rfl
@[simp] theorem AWait.c1 (x : AWait) : (AWait.dv x).cells[1]? = some (I x.Amount) := rfl
@[simp] theorem AWait.c2 (x : AWait) : (AWait.dv x).cells[2]? = some (.s x.Key) := rfl
structure ANight where
 Limit : Int
 Avail : SL AAvail
 Queue : SL AWait
def ANight.cells (x : ANight) : List DV := [I x.Limit, .l (K1 3) (x.Avail.l.map AAvail.dv) x.Avail.t, .l (K1 3) (x.Queue.l.map AWait.dv) x.Queue.t]
def ANight.dv (x : ANight) : DV := .a [I x.Limit, .l (K1 3) (x.Avail.l.map AAvail.dv) x.Avail.t, .l (K1 3) (x.Queue.l.map AWait.dv) x.Queue.t]
@[simp] theorem ANight.fits (x : ANight) : Sim.fits (K1 3) (.d (ANight.dv x)) = true := rfl
@[simp] theorem ANight.purT (x : ANight) (H : Heap) : Sim.purT H (.d (ANight.dv x)) = some (.d (ANight.dv x), false) := rfl
@[simp] theorem ANight.clen (x : ANight) : (ANight.dv x).cells.length = 3 := rfl
@[simp] theorem ANight.aof (x : ANight) : DV.a (ANight.cells x) = ANight.dv x := rfl
@[simp] theorem ANight.ccl (x : ANight) : (ANight.cells x).length = 3 := rfl
@[simp] theorem ANight.c0 (x : ANight) : (ANight.dv x).cells[0]? = some (I x.Limit) := rfl
@[simp] theorem ANight.c1 (x : ANight) : (ANight.dv x).cells[1]? = some (.l (K1 3) (x.Avail.l.map AAvail.dv) x.Avail.t) := rfl
@[simp] theorem ANight.c2 (x : ANight) : (ANight.dv x).cells[2]? = some (.l (K1 3) (x.Queue.l.map AWait.dv) x.Queue.t) := rfl
structure ABank where
 Day : Int
 NextId : Int
 Home : List UInt8
 Books : ABooks
 Periods : SL APeriod
 Loans : SL ALoan
 Orders : SL AOrder
 Mandates : SL AMandate
 Debits : SL ADebit
 Inbox : SL AMessage
 Statements : SL AStatement
 Users : SL AUser
 Requests : SL ARequest
 Trail : SL AMark
 Run : ARun
 Night : ANight
def ABank.cells (x : ABank) : List DV := [I x.Day, I x.NextId, .s x.Home, .l (K1 2) (x.Books.Currencies.l.map ACurrency.dv) x.Books.Currencies.t, .l (K1 3) (x.Books.Calendars.l.map ACalendar.dv) x.Books.Calendars.t, .l (K1 4) (x.Books.Chart.l.map AGl.dv) x.Books.Chart.t, I x.Books.Plan.Cash, I x.Books.Plan.Deposits, I x.Books.Plan.InterestPaid, I x.Books.Plan.InterestEarned, I x.Books.Plan.FeeEarned, I x.Books.Plan.Tax, I x.Books.Plan.Clearing, I x.Books.Plan.Loans, I x.Books.Plan.LoanInterest, I x.Books.Plan.Penalty, I x.Books.Plan.Provision, I x.Books.Plan.ProvisionCost, I x.Books.Plan.Loss, I x.Books.Plan.Recovery, .l (K1 19) (x.Books.Products.l.map AProduct.dv) x.Books.Products.t, .l (K1 7) (x.Books.Accounts.l.map AAccount.dv) x.Books.Accounts.t, .l (K1 10) (x.Books.Journal.l.map AEntry.dv) x.Books.Journal.t, .l (K1 6) (x.Books.Holds.l.map AHold.dv) x.Books.Holds.t, .l (K1 7) (x.Books.Blocks.l.map ABlock.dv) x.Books.Blocks.t, .l (K1 11) (x.Periods.l.map APeriod.dv) x.Periods.t, .l (K1 25) (x.Loans.l.map ALoan.dv) x.Loans.t, .l (K1 10) (x.Orders.l.map AOrder.dv) x.Orders.t, .l (K1 7) (x.Mandates.l.map AMandate.dv) x.Mandates.t, .l (K1 9) (x.Debits.l.map ADebit.dv) x.Debits.t, .l (K1 7) (x.Inbox.l.map AMessage.dv) x.Inbox.t, .l (K1 7) (x.Statements.l.map AStatement.dv) x.Statements.t, .l (K1 3) (x.Users.l.map AUser.dv) x.Users.t, .l (K1 35) (x.Requests.l.map ARequest.dv) x.Requests.t, .l (K1 5) (x.Trail.l.map AMark.dv) x.Trail.t, .b x.Run.Active, I x.Run.Next, I x.Run.Shards, I x.Run.Restarts, I x.Night.Limit, .l (K1 3) (x.Night.Avail.l.map AAvail.dv) x.Night.Avail.t, .l (K1 3) (x.Night.Queue.l.map AWait.dv) x.Night.Queue.t]
def ABank.dv (x : ABank) : DV := .a [I x.Day, I x.NextId, .s x.Home, .l (K1 2) (x.Books.Currencies.l.map ACurrency.dv) x.Books.Currencies.t, .l (K1 3) (x.Books.Calendars.l.map ACalendar.dv) x.Books.Calendars.t, .l (K1 4) (x.Books.Chart.l.map AGl.dv) x.Books.Chart.t, I x.Books.Plan.Cash, I x.Books.Plan.Deposits, I x.Books.Plan.InterestPaid, I x.Books.Plan.InterestEarned, I x.Books.Plan.FeeEarned, I x.Books.Plan.Tax, I x.Books.Plan.Clearing, I x.Books.Plan.Loans, I x.Books.Plan.LoanInterest, I x.Books.Plan.Penalty, I x.Books.Plan.Provision, I x.Books.Plan.ProvisionCost, I x.Books.Plan.Loss, I x.Books.Plan.Recovery, .l (K1 19) (x.Books.Products.l.map AProduct.dv) x.Books.Products.t, .l (K1 7) (x.Books.Accounts.l.map AAccount.dv) x.Books.Accounts.t, .l (K1 10) (x.Books.Journal.l.map AEntry.dv) x.Books.Journal.t, .l (K1 6) (x.Books.Holds.l.map AHold.dv) x.Books.Holds.t, .l (K1 7) (x.Books.Blocks.l.map ABlock.dv) x.Books.Blocks.t, .l (K1 11) (x.Periods.l.map APeriod.dv) x.Periods.t, .l (K1 25) (x.Loans.l.map ALoan.dv) x.Loans.t, .l (K1 10) (x.Orders.l.map AOrder.dv) x.Orders.t, .l (K1 7) (x.Mandates.l.map AMandate.dv) x.Mandates.t, .l (K1 9) (x.Debits.l.map ADebit.dv) x.Debits.t, .l (K1 7) (x.Inbox.l.map AMessage.dv) x.Inbox.t, .l (K1 7) (x.Statements.l.map AStatement.dv) x.Statements.t, .l (K1 3) (x.Users.l.map AUser.dv) x.Users.t, .l (K1 35) (x.Requests.l.map ARequest.dv) x.Requests.t, .l (K1 5) (x.Trail.l.map AMark.dv) x.Trail.t, .b x.Run.Active, I x.Run.Next, I x.Run.Shards, I x.Run.Restarts, I x.Night.Limit, .l (K1 3) (x.Night.Avail.l.map AAvail.dv) x.Night.Avail.t, .l (K1 3) (x.Night.Queue.l.map AWait.dv) x.Night.Queue.t]
@[simp] theorem ABank.fits (x : ABank) : Sim.fits (K1 42) (.d (ABank.dv x)) = true := rfl
@[simp] theorem ABank.purT (x : ABank) (H : Heap) : Sim.purT H (.d (ABank.dv x)) = some (.d (ABank.dv x), false) := rfl
@[simp] theorem ABank.clen (x : ABank) : (ABank.dv x).cells.length = 42 := rfl
@[simp] theorem ABank.aof (x : ABank) : DV.a (ABank.cells x) = ABank.dv x := rfl
@[simp] theorem ABank.ccl (x : ABank) : (ABank.cells x).length = 42 := rfl
@[simp] theorem ABank.n3_22 (x : ABank) : ((ABank.dv x).cells.drop 3).take 22 = ABooks.cells x.Books := rfl
@[simp] theorem ABank.n6_14 (x : ABank) : ((ABank.dv x).cells.drop 6).take 14 = APlan.cells x.Books.Plan := rfl
@[simp] theorem ABank.n35_4 (x : ABank) : ((ABank.dv x).cells.drop 35).take 4 = ARun.cells x.Run := rfl
@[simp] theorem ABank.n39_3 (x : ABank) : ((ABank.dv x).cells.drop 39).take 3 = ANight.cells x.Night := rfl
@[simp] theorem ABank.c0 (x : ABank) : (ABank.dv x).cells[0]? = some (I x.Day) := rfl
@[simp] theorem ABank.c1 (x : ABank) : (ABank.dv x).cells[1]? = some (I x.NextId) := rfl
@[simp] theorem ABank.c2 (x : ABank) : (ABank.dv x).cells[2]? = some (.s x.Home) := rfl
@[simp] theorem ABank.c3 (x : ABank) : (ABank.dv x).cells[3]? = some (.l (K1 2) (x.Books.Currencies.l.map ACurrency.dv) x.Books.Currencies.t) := rfl
@[simp] theorem ABank.c4 (x : ABank) : (ABank.dv x).cells[4]? = some (.l (K1 3) (x.Books.Calendars.l.map ACalendar.dv) x.Books.Calendars.t) := rfl
@[simp] theorem ABank.c5 (x : ABank) : (ABank.dv x).cells[5]? = some (.l (K1 4) (x.Books.Chart.l.map AGl.dv) x.Books.Chart.t) := rfl
@[simp] theorem ABank.c6 (x : ABank) : (ABank.dv x).cells[6]? = some (I x.Books.Plan.Cash) := rfl
@[simp] theorem ABank.c7 (x : ABank) : (ABank.dv x).cells[7]? = some (I x.Books.Plan.Deposits) := rfl
@[simp] theorem ABank.c8 (x : ABank) : (ABank.dv x).cells[8]? = some (I x.Books.Plan.InterestPaid) := rfl
@[simp] theorem ABank.c9 (x : ABank) : (ABank.dv x).cells[9]? = some (I x.Books.Plan.InterestEarned) := rfl
@[simp] theorem ABank.c10 (x : ABank) : (ABank.dv x).cells[10]? = some (I x.Books.Plan.FeeEarned) := rfl
@[simp] theorem ABank.c11 (x : ABank) : (ABank.dv x).cells[11]? = some (I x.Books.Plan.Tax) := rfl
@[simp] theorem ABank.c12 (x : ABank) : (ABank.dv x).cells[12]? = some (I x.Books.Plan.Clearing) := rfl
@[simp] theorem ABank.c13 (x : ABank) : (ABank.dv x).cells[13]? = some (I x.Books.Plan.Loans) := rfl
@[simp] theorem ABank.c14 (x : ABank) : (ABank.dv x).cells[14]? = some (I x.Books.Plan.LoanInterest) := rfl
@[simp] theorem ABank.c15 (x : ABank) : (ABank.dv x).cells[15]? = some (I x.Books.Plan.Penalty) := rfl
@[simp] theorem ABank.c16 (x : ABank) : (ABank.dv x).cells[16]? = some (I x.Books.Plan.Provision) := rfl
@[simp] theorem ABank.c17 (x : ABank) : (ABank.dv x).cells[17]? = some (I x.Books.Plan.ProvisionCost) := rfl
@[simp] theorem ABank.c18 (x : ABank) : (ABank.dv x).cells[18]? = some (I x.Books.Plan.Loss) := rfl
@[simp] theorem ABank.c19 (x : ABank) : (ABank.dv x).cells[19]? = some (I x.Books.Plan.Recovery) := rfl
@[simp] theorem ABank.c20 (x : ABank) : (ABank.dv x).cells[20]? = some (.l (K1 19) (x.Books.Products.l.map AProduct.dv) x.Books.Products.t) := rfl
@[simp] theorem ABank.c21 (x : ABank) : (ABank.dv x).cells[21]? = some (.l (K1 7) (x.Books.Accounts.l.map AAccount.dv) x.Books.Accounts.t) := rfl
@[simp] theorem ABank.c22 (x : ABank) : (ABank.dv x).cells[22]? = some (.l (K1 10) (x.Books.Journal.l.map AEntry.dv) x.Books.Journal.t) := rfl
@[simp] theorem ABank.c23 (x : ABank) : (ABank.dv x).cells[23]? = some (.l (K1 6) (x.Books.Holds.l.map AHold.dv) x.Books.Holds.t) := rfl
@[simp] theorem ABank.c24 (x : ABank) : (ABank.dv x).cells[24]? = some (.l (K1 7) (x.Books.Blocks.l.map ABlock.dv) x.Books.Blocks.t) := rfl
@[simp] theorem ABank.c25 (x : ABank) : (ABank.dv x).cells[25]? = some (.l (K1 11) (x.Periods.l.map APeriod.dv) x.Periods.t) := rfl
@[simp] theorem ABank.c26 (x : ABank) : (ABank.dv x).cells[26]? = some (.l (K1 25) (x.Loans.l.map ALoan.dv) x.Loans.t) := rfl
@[simp] theorem ABank.c27 (x : ABank) : (ABank.dv x).cells[27]? = some (.l (K1 10) (x.Orders.l.map AOrder.dv) x.Orders.t) := rfl
@[simp] theorem ABank.c28 (x : ABank) : (ABank.dv x).cells[28]? = some (.l (K1 7) (x.Mandates.l.map AMandate.dv) x.Mandates.t) := rfl
@[simp] theorem ABank.c29 (x : ABank) : (ABank.dv x).cells[29]? = some (.l (K1 9) (x.Debits.l.map ADebit.dv) x.Debits.t) := rfl
@[simp] theorem ABank.c30 (x : ABank) : (ABank.dv x).cells[30]? = some (.l (K1 7) (x.Inbox.l.map AMessage.dv) x.Inbox.t) := rfl
@[simp] theorem ABank.c31 (x : ABank) : (ABank.dv x).cells[31]? = some (.l (K1 7) (x.Statements.l.map AStatement.dv) x.Statements.t) := rfl
@[simp] theorem ABank.c32 (x : ABank) : (ABank.dv x).cells[32]? = some (.l (K1 3) (x.Users.l.map AUser.dv) x.Users.t) := rfl
@[simp] theorem ABank.c33 (x : ABank) : (ABank.dv x).cells[33]? = some (.l (K1 35) (x.Requests.l.map ARequest.dv) x.Requests.t) := rfl
@[simp] theorem ABank.c34 (x : ABank) : (ABank.dv x).cells[34]? = some (.l (K1 5) (x.Trail.l.map AMark.dv) x.Trail.t) := rfl
@[simp] theorem ABank.c35 (x : ABank) : (ABank.dv x).cells[35]? = some (.b x.Run.Active) := rfl
@[simp] theorem ABank.c36 (x : ABank) : (ABank.dv x).cells[36]? = some (I x.Run.Next) := rfl
@[simp] theorem ABank.c37 (x : ABank) : (ABank.dv x).cells[37]? = some (I x.Run.Shards) := rfl
@[simp] theorem ABank.c38 (x : ABank) : (ABank.dv x).cells[38]? = some (I x.Run.Restarts) := rfl
@[simp] theorem ABank.c39 (x : ABank) : (ABank.dv x).cells[39]? = some (I x.Night.Limit) := rfl
@[simp] theorem ABank.c40 (x : ABank) : (ABank.dv x).cells[40]? = some (.l (K1 3) (x.Night.Avail.l.map AAvail.dv) x.Night.Avail.t) := rfl
@[simp] theorem ABank.c41 (x : ABank) : (ABank.dv x).cells[41]? = some (.l (K1 3) (x.Night.Queue.l.map AWait.dv) x.Night.Queue.t) := rfl
structure ATask where
 Stage : Int
 Shard : Int
def ATask.cells (x : ATask) : List DV := [I x.Stage, I x.Shard]
def ATask.dv (x : ATask) : DV := .a [I x.Stage, I x.Shard]
@[simp] theorem ATask.fits (x : ATask) : Sim.fits (K1 2) (.d (ATask.dv x)) = true := rfl
@[simp] theorem ATask.purT (x : ATask) (H : Heap) : Sim.purT H (.d (ATask.dv x)) = some (.d (ATask.dv x), false) := rfl
@[simp] theorem ATask.clen (x : ATask) : (ATask.dv x).cells.length = 2 := rfl
@[simp] theorem ATask.aof (x : ATask) : DV.a (ATask.cells x) = ATask.dv x := rfl
@[simp] theorem ATask.ccl (x : ATask) : (ATask.cells x).length = 2 := rfl
@[simp] theorem ATask.c0 (x : ATask) : (ATask.dv x).cells[0]? = some (I x.Stage) := rfl
@[simp] theorem ATask.c1 (x : ATask) : (ATask.dv x).cells[1]? = some (I x.Shard) := rfl
end Go.Sim
end
section
namespace Go.Sim
theorem hasL_cons {t : Ty} {ts : List Ty} {xs : List DV} (h : HasL (t :: ts) xs) : ∃ x r, xs = x :: r ∧ Has t x ∧ HasL ts r := by
 cases xs with
 | nil => simp [HasL] at h
 | cons x r => rw [HasL] at h; exact ⟨x, r, rfl, h.1, h.2⟩
theorem hasL_nil {xs : List DV} (h : HasL [] xs) : xs = [] := by
 cases xs with
 | nil => rfl
 | cons x r => simp [HasL] at h
theorem has_i {k : IntKind} {x : DV} (h : Has (.i k) x) : ∃ n, x = .i k n ∧ (Lit.int k n).wf = true := by rw [Has] at h; exact h
theorem has_b {x : DV} (h : Has .b x) : ∃ c, x = .b c := by rw [Has] at h; exact h
theorem has_s {x : DV} (h : Has .s x) : ∃ l, x = .s l ∧ l.length ≤ maxLen := by rw [Has] at h; exact h
theorem mkD_some {n : Nat} {xs : List DV} {e : DV} (h : mkD (some n) xs = some e) : e = .a xs := by
 simp only [mkD] at h
 split at h
 ·cases h; rfl
 ·cases h
end Go.Sim
end
section
namespace Go.Sim
def inK (k : IntKind) (n : Int) : Prop := (Lit.int k n).wf = true
theorem list_of' {α : Type} {f : α → DV} {p : α → Prop} : ∀ {es : List DV}, (∀ e ∈ es, ∃ a, e = f a ∧ p a) → ∃ l : List α, es = l.map f ∧ ∀ a ∈ l, p a
 | [], _ => ⟨[], rfl, fun a h => by cases h⟩
 | e :: es, h => by
  obtain ⟨a, ha, hp⟩ := h e (List.mem_cons_self ..)
  obtain ⟨l, hl, hq⟩ := list_of' (fun x hx => h x (List.mem_cons_of_mem _ hx))
  refine ⟨a :: l, by rw [ha, hl]; rfl, fun b hb => ?_⟩
  rcases List.mem_cons.1 hb with rfl | hb
  ·exact hp
  ·exact hq b hb
theorem to_l {α : Type} {f : α → DV} {p q : α → Prop} {n b : Nat} {ts : List Ty} {x : DV} (h : Has (.l (some n) b ts) x) (hf : ∀ cs, HasL ts cs → ∃ a, DV.a cs = f a ∧ p a ∧ q a) : ∃ s : SL α, x = .l (some n) (s.l.map f) s.t ∧ (s.l.length ≤ maxLen ∧ ∀ a ∈ s.l, p a) ∧ s.t = false ∧ s.l.length * b ≤ cap47 ∧ ∀ a ∈ s.l, q a := by
 rw [Has] at h
 obtain ⟨es, rfl, h1, hb, h2⟩ := h
 obtain ⟨l, rfl, hp⟩ := list_of' (f := f) (p := fun a => p a ∧ q a) (es := es) fun e he => by
  obtain ⟨cs, h3, h4⟩ := h2 e he
  obtain ⟨a, ha, hp⟩ := hf cs h4
  exact ⟨a, by rw [mkD_some h3]; exact ha, hp⟩
 exact ⟨⟨l, false⟩, rfl, ⟨by simpa using h1, fun a ha => (hp a ha).1⟩, rfl, by simpa using hb, fun a ha => (hp a ha).2⟩
theorem to_l1 {α : Type} {f : α → DV} {p : α → Prop} {t : Ty} {b : Nat} {x : DV} (h : Has (.l none b [t]) x) (hf : ∀ y, Has t y → ∃ a, y = f a ∧ p a) : ∃ s : SL α, x = .l none (s.l.map f) s.t ∧ (s.l.length ≤ maxLen ∧ ∀ a ∈ s.l, p a) ∧ s.t = false ∧ s.l.length * b ≤ cap47 := by
 rw [Has] at h
 obtain ⟨es, rfl, h1, hb, h2⟩ := h
 obtain ⟨l, rfl, hp⟩ := list_of' (f := f) (p := p) (es := es) fun e he => by
  obtain ⟨cs, h3, h4⟩ := h2 e he
  obtain ⟨y, r, rfl, h5, h6⟩ := hasL_cons h4
  obtain rfl := hasL_nil h6
  simp only [mkD, Option.some.injEq] at h3
  subst h3
  exact hf y h5
 exact ⟨⟨l, false⟩, rfl, ⟨by simpa using h1, hp⟩, rfl, by simpa using hb⟩
theorem to_x {x : DV} (h : Has .e x) : ∃ s : SL DV, x = .l (K1 4) s.l s.t ∧ XL (.l (K1 4) s.l s.t) := by
 rw [Has] at h
 cases h with
 | mk es h1 h2 h3 => exact ⟨⟨es, false⟩, rfl, .mk es h1 h2 h3⟩
theorem hasI {k : IntKind} {ts : List Ty} {xs : List DV} (g : HasL (.i k :: ts) xs) : ∃ n r, xs = .i k n :: r ∧ inK k n ∧ HasL ts r := by
 obtain ⟨_, r, rfl, h0, h⟩ := hasL_cons g
 obtain ⟨n, rfl, p⟩ := has_i h0
 exact ⟨n, r, rfl, p, h⟩
theorem hasS {ts : List Ty} {xs : List DV} (g : HasL (.s :: ts) xs) : ∃ n r, xs = .s n :: r ∧ n.length ≤ maxLen ∧ HasL ts r := by
 obtain ⟨_, r, rfl, h0, h⟩ := hasL_cons g
 obtain ⟨n, rfl, p⟩ := has_s h0
 exact ⟨n, r, rfl, p, h⟩
theorem hasB {ts : List Ty} {xs : List DV} (g : HasL (.b :: ts) xs) : ∃ n r, xs = .b n :: r ∧ True ∧ HasL ts r := by
 obtain ⟨_, r, rfl, h0, h⟩ := hasL_cons g
 obtain ⟨n, rfl⟩ := has_b h0
 exact ⟨n, r, rfl, trivial, h⟩
theorem hasX {ts : List Ty} {xs : List DV} (g : HasL (.e :: ts) xs) : ∃ (s : SL DV) (r : List DV), xs = .l (K1 4) s.l s.t :: r ∧ XL (.l (K1 4) s.l s.t) ∧ HasL ts r := by
 obtain ⟨_, r, rfl, h0, h⟩ := hasL_cons g
 obtain ⟨n, rfl, p⟩ := to_x h0
 exact ⟨n, r, rfl, p, h⟩
theorem hasN {b : Nat} {ts : List Ty} {xs : List DV} (g : HasL (.l none b [.i .i64] :: ts) xs) : ∃ (s : SL Int) (r : List DV), xs = .l none (s.l.map I) s.t :: r ∧ (s.l.length ≤ maxLen ∧ ∀ y ∈ s.l, inK .i64 y) ∧ (s.t = false ∧ s.l.length * b ≤ cap47) ∧ HasL ts r := by
 obtain ⟨_, r, rfl, h0, h⟩ := hasL_cons g
 obtain ⟨n, rfl, p, q⟩ := to_l1 (f := I) (p := fun y => inK .i64 y) h0 fun y hy => has_i hy
 exact ⟨n, r, rfl, p, q, h⟩
theorem hasA {α : Type} {f : α → DV} {p q : α → Prop} {n b : Nat} {us ts : List Ty} {xs : List DV} (hf : ∀ cs, HasL us cs → ∃ a, DV.a cs = f a ∧ p a ∧ q a) (g : HasL (.l (some n) b us :: ts) xs) : ∃ (s : SL α) (r : List DV), xs = .l (some n) (s.l.map f) s.t :: r ∧ (s.l.length ≤ maxLen ∧ ∀ a ∈ s.l, p a) ∧ (s.t = false ∧ s.l.length * b ≤ cap47 ∧ ∀ a ∈ s.l, q a) ∧ HasL ts r := by
 obtain ⟨_, r, rfl, h0, h⟩ := hasL_cons g
 obtain ⟨n, rfl, p, q⟩ := to_l h0 hf
 exact ⟨n, r, rfl, p, q, h⟩
def AWide.ok (x : AWide) : Prop := inK .i64 x.Hi ∧ inK .u64 x.Lo
def AWide.fit (_ : AWide) : Prop := True
def AWide.ty : List Ty := [.i .i64, .i .u64]
theorem AWide.ofB (cs : List DV) (h : HasL AWide.ty cs) : ∃ x : AWide, DV.a cs = x.dv ∧ x.ok ∧ x.fit := by
 obtain ⟨a0, _, rfl, p0, h⟩ := hasI h
 obtain ⟨a1, _, rfl, p1, h⟩ := hasI h
 obtain rfl := hasL_nil h
 exact ⟨⟨a0, a1⟩, rfl, ⟨p0, p1⟩, trivial⟩
def ACurrency.ok (x : ACurrency) : Prop := x.Code.length ≤ maxLen ∧ inK .i64 x.Digits
def ACurrency.fit (_ : ACurrency) : Prop := True
def ACurrency.ty : List Ty := [.s, .i .i64]
theorem ACurrency.ofB (cs : List DV) (h : HasL ACurrency.ty cs) : ∃ x : ACurrency, DV.a cs = x.dv ∧ x.ok ∧ x.fit := by
 obtain ⟨a0, _, rfl, p0, h⟩ := hasS h
 obtain ⟨a1, _, rfl, p1, h⟩ := hasI h
 obtain rfl := hasL_nil h
 exact ⟨⟨a0, a1⟩, rfl, ⟨p0, p1⟩, trivial⟩
def ACalendar.ok (x : ACalendar) : Prop := x.Name.length ≤ maxLen ∧ (x.Weekend.l.length ≤ maxLen ∧ ∀ y ∈ x.Weekend.l, inK .i64 y) ∧ (x.Holidays.l.length ≤ maxLen ∧ ∀ y ∈ x.Holidays.l, inK .i64 y)
def ACalendar.fit (x : ACalendar) : Prop := (x.Weekend.t = false ∧ x.Weekend.l.length * 8 ≤ cap47) ∧ (x.Holidays.t = false ∧ x.Holidays.l.length * 8 ≤ cap47)
def ACalendar.ty : List Ty := [.s, .l none 8 [.i .i64], .l none 8 [.i .i64]]
theorem ACalendar.ofB (cs : List DV) (h : HasL ACalendar.ty cs) : ∃ x : ACalendar, DV.a cs = x.dv ∧ x.ok ∧ x.fit := by
 obtain ⟨a0, _, rfl, p0, h⟩ := hasS h
 obtain ⟨a1, _, rfl, p1, q1, h⟩ := hasN h
 obtain ⟨a2, _, rfl, p2, q2, h⟩ := hasN h
 obtain rfl := hasL_nil h
 exact ⟨⟨a0, a1, a2⟩, rfl, ⟨p0, p1, p2⟩, ⟨q1, q2⟩⟩
def ATier.ok (x : ATier) : Prop := inK .i64 x.From ∧ inK .i64 x.Ppm
def ATier.fit (_ : ATier) : Prop := True
def ATier.ty : List Ty := [.i .i64, .i .i64]
theorem ATier.ofB (cs : List DV) (h : HasL ATier.ty cs) : ∃ x : ATier, DV.a cs = x.dv ∧ x.ok ∧ x.fit := by
 obtain ⟨a0, _, rfl, p0, h⟩ := hasI h
 obtain ⟨a1, _, rfl, p1, h⟩ := hasI h
 obtain rfl := hasL_nil h
 exact ⟨⟨a0, a1⟩, rfl, ⟨p0, p1⟩, trivial⟩
def AInterest.ok (x : AInterest) : Prop := (x.Tiers.l.length ≤ maxLen ∧ ∀ y ∈ x.Tiers.l, y.ok) ∧ inK .i64 x.Basis ∧ inK .i64 x.Mode
def AInterest.fit (x : AInterest) : Prop := (x.Tiers.t = false ∧ x.Tiers.l.length * 16 ≤ cap47 ∧ ∀ y ∈ x.Tiers.l, y.fit)
def AInterest.ty : List Ty := [.l (K1 2) 16 ATier.ty, .b, .i .i64, .i .i64, .b]
theorem AInterest.ofB (cs : List DV) (h : HasL AInterest.ty cs) : ∃ x : AInterest, DV.a cs = x.dv ∧ x.ok ∧ x.fit := by
 obtain ⟨a0, _, rfl, p0, q0, h⟩ := hasA ATier.ofB h
 obtain ⟨a1, _, rfl, -, h⟩ := hasB h
 obtain ⟨a2, _, rfl, p2, h⟩ := hasI h
 obtain ⟨a3, _, rfl, p3, h⟩ := hasI h
 obtain ⟨a4, _, rfl, -, h⟩ := hasB h
 obtain rfl := hasL_nil h
 exact ⟨⟨a0, a1, a2, a3, a4⟩, rfl, ⟨p0, p2, p3⟩, q0⟩
def AExpr.ok (x : AExpr) : Prop := inK .i64 x.Op ∧ inK .i64 x.N ∧ x.S.length ≤ maxLen ∧ XL (.l (K1 4) x.Args.l x.Args.t)
def AFee.ok (x : AFee) : Prop := x.Name.length ≤ maxLen ∧ inK .i64 x.Event ∧ x.When.ok ∧ x.Amount.ok
def AFee.fit (_ : AFee) : Prop := True
def AFee.ty : List Ty := [.s, .i .i64, .i .i64, .i .i64, .s, .e, .i .i64, .i .i64, .s, .e]
theorem AFee.ofB (cs : List DV) (h : HasL AFee.ty cs) : ∃ x : AFee, DV.a cs = x.dv ∧ x.ok ∧ x.fit := by
 obtain ⟨a0, _, rfl, p0, h⟩ := hasS h
 obtain ⟨a1, _, rfl, p1, h⟩ := hasI h
 obtain ⟨a2, _, rfl, p2, h⟩ := hasI h
 obtain ⟨a3, _, rfl, p3, h⟩ := hasI h
 obtain ⟨a4, _, rfl, p4, h⟩ := hasS h
 obtain ⟨a5, _, rfl, p5, h⟩ := hasX h
 obtain ⟨a6, _, rfl, p6, h⟩ := hasI h
 obtain ⟨a7, _, rfl, p7, h⟩ := hasI h
 obtain ⟨a8, _, rfl, p8, h⟩ := hasS h
 obtain ⟨a9, _, rfl, p9, h⟩ := hasX h
 obtain rfl := hasL_nil h
 exact ⟨⟨a0, a1, ⟨a2, a3, a4, a5⟩, ⟨a6, a7, a8, a9⟩⟩, rfl, ⟨p0, p1, ⟨p2, p3, p4, p5⟩, ⟨p6, p7, p8, p9⟩⟩, trivial⟩
def ARule.ok (x : ARule) : Prop := x.Name.length ≤ maxLen ∧ inK .i64 x.Window ∧ x.Amount.ok
def ARule.fit (_ : ARule) : Prop := True
def ARule.ty : List Ty := [.s, .i .i64, .i .i64, .i .i64, .s, .e]
theorem ARule.ofB (cs : List DV) (h : HasL ARule.ty cs) : ∃ x : ARule, DV.a cs = x.dv ∧ x.ok ∧ x.fit := by
 obtain ⟨a0, _, rfl, p0, h⟩ := hasS h
 obtain ⟨a1, _, rfl, p1, h⟩ := hasI h
 obtain ⟨a2, _, rfl, p2, h⟩ := hasI h
 obtain ⟨a3, _, rfl, p3, h⟩ := hasI h
 obtain ⟨a4, _, rfl, p4, h⟩ := hasS h
 obtain ⟨a5, _, rfl, p5, h⟩ := hasX h
 obtain rfl := hasL_nil h
 exact ⟨⟨a0, a1, ⟨a2, a3, a4, a5⟩⟩, rfl, ⟨p0, p1, ⟨p2, p3, p4, p5⟩⟩, trivial⟩
def AProduct.ok (x : AProduct) : Prop := x.Name.length ≤ maxLen ∧ x.Currency.length ≤ maxLen ∧ x.Calendar.length ≤ maxLen ∧ inK .i64 x.From ∧ inK .i64 x.Every ∧ inK .i64 x.Overdraft ∧ inK .i64 x.TaxPpm ∧ x.Credit.ok ∧ x.Debit.ok ∧ (x.Fees.l.length ≤ maxLen ∧ ∀ y ∈ x.Fees.l, y.ok) ∧ (x.Rules.l.length ≤ maxLen ∧ ∀ y ∈ x.Rules.l, y.ok)
def AProduct.fit (x : AProduct) : Prop := x.Credit.fit ∧ x.Debit.fit ∧ (x.Fees.t = false ∧ x.Fees.l.length * 136 ≤ cap47 ∧ ∀ y ∈ x.Fees.l, y.fit) ∧ (x.Rules.t = false ∧ x.Rules.l.length * 80 ≤ cap47 ∧ ∀ y ∈ x.Rules.l, y.fit)
def AProduct.ty : List Ty := [.s, .s, .s, .i .i64, .i .i64, .i .i64, .i .i64, .l (K1 2) 16 ATier.ty, .b, .i .i64, .i .i64, .b, .l (K1 2) 16 ATier.ty, .b, .i .i64, .i .i64, .b, .l (K1 10) 136 AFee.ty, .l (K1 6) 80 ARule.ty]
theorem AProduct.ofB (cs : List DV) (h : HasL AProduct.ty cs) : ∃ x : AProduct, DV.a cs = x.dv ∧ x.ok ∧ x.fit := by
 obtain ⟨a0, _, rfl, p0, h⟩ := hasS h
 obtain ⟨a1, _, rfl, p1, h⟩ := hasS h
 obtain ⟨a2, _, rfl, p2, h⟩ := hasS h
 obtain ⟨a3, _, rfl, p3, h⟩ := hasI h
 obtain ⟨a4, _, rfl, p4, h⟩ := hasI h
 obtain ⟨a5, _, rfl, p5, h⟩ := hasI h
 obtain ⟨a6, _, rfl, p6, h⟩ := hasI h
 obtain ⟨a7, _, rfl, p7, q7, h⟩ := hasA ATier.ofB h
 obtain ⟨a8, _, rfl, -, h⟩ := hasB h
 obtain ⟨a9, _, rfl, p9, h⟩ := hasI h
 obtain ⟨a10, _, rfl, p10, h⟩ := hasI h
 obtain ⟨a11, _, rfl, -, h⟩ := hasB h
 obtain ⟨a12, _, rfl, p12, q12, h⟩ := hasA ATier.ofB h
 obtain ⟨a13, _, rfl, -, h⟩ := hasB h
 obtain ⟨a14, _, rfl, p14, h⟩ := hasI h
 obtain ⟨a15, _, rfl, p15, h⟩ := hasI h
 obtain ⟨a16, _, rfl, -, h⟩ := hasB h
 obtain ⟨a17, _, rfl, p17, q17, h⟩ := hasA AFee.ofB h
 obtain ⟨a18, _, rfl, p18, q18, h⟩ := hasA ARule.ofB h
 obtain rfl := hasL_nil h
 exact ⟨⟨a0, a1, a2, a3, a4, a5, a6, ⟨a7, a8, a9, a10, a11⟩, ⟨a12, a13, a14, a15, a16⟩, a17, a18⟩, rfl, ⟨p0, p1, p2, p3, p4, p5, p6, ⟨p7, p9, p10⟩, ⟨p12, p14, p15⟩, p17, p18⟩, ⟨q7, q12, q17, q18⟩⟩
def AGl.ok (x : AGl) : Prop := inK .i64 x.Id ∧ inK .i64 x.Parent ∧ inK .i64 x.Kind ∧ x.Name.length ≤ maxLen
def AGl.fit (_ : AGl) : Prop := True
def AGl.ty : List Ty := [.i .i64, .i .i64, .i .i64, .s]
theorem AGl.ofB (cs : List DV) (h : HasL AGl.ty cs) : ∃ x : AGl, DV.a cs = x.dv ∧ x.ok ∧ x.fit := by
 obtain ⟨a0, _, rfl, p0, h⟩ := hasI h
 obtain ⟨a1, _, rfl, p1, h⟩ := hasI h
 obtain ⟨a2, _, rfl, p2, h⟩ := hasI h
 obtain ⟨a3, _, rfl, p3, h⟩ := hasS h
 obtain rfl := hasL_nil h
 exact ⟨⟨a0, a1, a2, a3⟩, rfl, ⟨p0, p1, p2, p3⟩, trivial⟩
def ALeg.ok (x : ALeg) : Prop := inK .i64 x.Account ∧ inK .i64 x.Amount ∧ x.Currency.length ≤ maxLen
def ALeg.fit (_ : ALeg) : Prop := True
def ALeg.ty : List Ty := [.i .i64, .i .i64, .s]
theorem ALeg.ofB (cs : List DV) (h : HasL ALeg.ty cs) : ∃ x : ALeg, DV.a cs = x.dv ∧ x.ok ∧ x.fit := by
 obtain ⟨a0, _, rfl, p0, h⟩ := hasI h
 obtain ⟨a1, _, rfl, p1, h⟩ := hasI h
 obtain ⟨a2, _, rfl, p2, h⟩ := hasS h
 obtain rfl := hasL_nil h
 exact ⟨⟨a0, a1, a2⟩, rfl, ⟨p0, p1, p2⟩, trivial⟩
def AEntry.ok (x : AEntry) : Prop := inK .i64 x.Id ∧ inK .i64 x.Booked ∧ inK .i64 x.Value ∧ inK .i64 x.Kind ∧ inK .i64 x.Auth ∧ inK .i64 x.Period ∧ x.Key.length ≤ maxLen ∧ x.Text.length ≤ maxLen ∧ (x.Legs.l.length ≤ maxLen ∧ ∀ y ∈ x.Legs.l, y.ok) ∧ inK .u64 x.Chain
def AEntry.fit (x : AEntry) : Prop := (x.Legs.t = false ∧ x.Legs.l.length * 32 ≤ cap47 ∧ ∀ y ∈ x.Legs.l, y.fit)
def AEntry.ty : List Ty := [.i .i64, .i .i64, .i .i64, .i .i64, .i .i64, .i .i64, .s, .s, .l (K1 3) 32 ALeg.ty, .i .u64]
theorem AEntry.ofB (cs : List DV) (h : HasL AEntry.ty cs) : ∃ x : AEntry, DV.a cs = x.dv ∧ x.ok ∧ x.fit := by
 obtain ⟨a0, _, rfl, p0, h⟩ := hasI h
 obtain ⟨a1, _, rfl, p1, h⟩ := hasI h
 obtain ⟨a2, _, rfl, p2, h⟩ := hasI h
 obtain ⟨a3, _, rfl, p3, h⟩ := hasI h
 obtain ⟨a4, _, rfl, p4, h⟩ := hasI h
 obtain ⟨a5, _, rfl, p5, h⟩ := hasI h
 obtain ⟨a6, _, rfl, p6, h⟩ := hasS h
 obtain ⟨a7, _, rfl, p7, h⟩ := hasS h
 obtain ⟨a8, _, rfl, p8, q8, h⟩ := hasA ALeg.ofB h
 obtain ⟨a9, _, rfl, p9, h⟩ := hasI h
 obtain rfl := hasL_nil h
 exact ⟨⟨a0, a1, a2, a3, a4, a5, a6, a7, a8, a9⟩, rfl, ⟨p0, p1, p2, p3, p4, p5, p6, p7, p8, p9⟩, q8⟩
def AHold.ok (x : AHold) : Prop := inK .i64 x.Id ∧ inK .i64 x.Account ∧ inK .i64 x.Amount ∧ inK .i64 x.From ∧ inK .i64 x.To ∧ x.Key.length ≤ maxLen
def AHold.fit (_ : AHold) : Prop := True
def AHold.ty : List Ty := [.i .i64, .i .i64, .i .i64, .i .i64, .i .i64, .s]
theorem AHold.ofB (cs : List DV) (h : HasL AHold.ty cs) : ∃ x : AHold, DV.a cs = x.dv ∧ x.ok ∧ x.fit := by
 obtain ⟨a0, _, rfl, p0, h⟩ := hasI h
 obtain ⟨a1, _, rfl, p1, h⟩ := hasI h
 obtain ⟨a2, _, rfl, p2, h⟩ := hasI h
 obtain ⟨a3, _, rfl, p3, h⟩ := hasI h
 obtain ⟨a4, _, rfl, p4, h⟩ := hasI h
 obtain ⟨a5, _, rfl, p5, h⟩ := hasS h
 obtain rfl := hasL_nil h
 exact ⟨⟨a0, a1, a2, a3, a4, a5⟩, rfl, ⟨p0, p1, p2, p3, p4, p5⟩, trivial⟩
def ABlock.ok (x : ABlock) : Prop := inK .i64 x.Id ∧ inK .i64 x.Account ∧ inK .i64 x.Kind ∧ inK .i64 x.Amount ∧ inK .i64 x.From ∧ inK .i64 x.To ∧ x.Source.length ≤ maxLen
def ABlock.fit (_ : ABlock) : Prop := True
def ABlock.ty : List Ty := [.i .i64, .i .i64, .i .i64, .i .i64, .i .i64, .i .i64, .s]
theorem ABlock.ofB (cs : List DV) (h : HasL ABlock.ty cs) : ∃ x : ABlock, DV.a cs = x.dv ∧ x.ok ∧ x.fit := by
 obtain ⟨a0, _, rfl, p0, h⟩ := hasI h
 obtain ⟨a1, _, rfl, p1, h⟩ := hasI h
 obtain ⟨a2, _, rfl, p2, h⟩ := hasI h
 obtain ⟨a3, _, rfl, p3, h⟩ := hasI h
 obtain ⟨a4, _, rfl, p4, h⟩ := hasI h
 obtain ⟨a5, _, rfl, p5, h⟩ := hasI h
 obtain ⟨a6, _, rfl, p6, h⟩ := hasS h
 obtain rfl := hasL_nil h
 exact ⟨⟨a0, a1, a2, a3, a4, a5, a6⟩, rfl, ⟨p0, p1, p2, p3, p4, p5, p6⟩, trivial⟩
def AAccount.ok (x : AAccount) : Prop := inK .i64 x.Id ∧ inK .i64 x.Opened ∧ inK .i64 x.Closed ∧ inK .i64 x.Extra ∧ x.Owner.length ≤ maxLen ∧ x.Product.length ≤ maxLen ∧ x.Number.length ≤ maxLen
def AAccount.fit (_ : AAccount) : Prop := True
def AAccount.ty : List Ty := [.i .i64, .i .i64, .i .i64, .i .i64, .s, .s, .s]
theorem AAccount.ofB (cs : List DV) (h : HasL AAccount.ty cs) : ∃ x : AAccount, DV.a cs = x.dv ∧ x.ok ∧ x.fit := by
 obtain ⟨a0, _, rfl, p0, h⟩ := hasI h
 obtain ⟨a1, _, rfl, p1, h⟩ := hasI h
 obtain ⟨a2, _, rfl, p2, h⟩ := hasI h
 obtain ⟨a3, _, rfl, p3, h⟩ := hasI h
 obtain ⟨a4, _, rfl, p4, h⟩ := hasS h
 obtain ⟨a5, _, rfl, p5, h⟩ := hasS h
 obtain ⟨a6, _, rfl, p6, h⟩ := hasS h
 obtain rfl := hasL_nil h
 exact ⟨⟨a0, a1, a2, a3, a4, a5, a6⟩, rfl, ⟨p0, p1, p2, p3, p4, p5, p6⟩, trivial⟩
def APlan.ok (x : APlan) : Prop := inK .i64 x.Cash ∧ inK .i64 x.Deposits ∧ inK .i64 x.InterestPaid ∧ inK .i64 x.InterestEarned ∧ inK .i64 x.FeeEarned ∧ inK .i64 x.Tax ∧ inK .i64 x.Clearing ∧ inK .i64 x.Loans ∧ inK .i64 x.LoanInterest ∧ inK .i64 x.Penalty ∧ inK .i64 x.Provision ∧ inK .i64 x.ProvisionCost ∧ inK .i64 x.Loss ∧ inK .i64 x.Recovery
def APlan.fit (_ : APlan) : Prop := True
def APlan.ty : List Ty := [.i .i64, .i .i64, .i .i64, .i .i64, .i .i64, .i .i64, .i .i64, .i .i64, .i .i64, .i .i64, .i .i64, .i .i64, .i .i64, .i .i64]
theorem APlan.ofB (cs : List DV) (h : HasL APlan.ty cs) : ∃ x : APlan, DV.a cs = x.dv ∧ x.ok ∧ x.fit := by
 obtain ⟨a0, _, rfl, p0, h⟩ := hasI h
 obtain ⟨a1, _, rfl, p1, h⟩ := hasI h
 obtain ⟨a2, _, rfl, p2, h⟩ := hasI h
 obtain ⟨a3, _, rfl, p3, h⟩ := hasI h
 obtain ⟨a4, _, rfl, p4, h⟩ := hasI h
 obtain ⟨a5, _, rfl, p5, h⟩ := hasI h
 obtain ⟨a6, _, rfl, p6, h⟩ := hasI h
 obtain ⟨a7, _, rfl, p7, h⟩ := hasI h
 obtain ⟨a8, _, rfl, p8, h⟩ := hasI h
 obtain ⟨a9, _, rfl, p9, h⟩ := hasI h
 obtain ⟨a10, _, rfl, p10, h⟩ := hasI h
 obtain ⟨a11, _, rfl, p11, h⟩ := hasI h
 obtain ⟨a12, _, rfl, p12, h⟩ := hasI h
 obtain ⟨a13, _, rfl, p13, h⟩ := hasI h
 obtain rfl := hasL_nil h
 exact ⟨⟨a0, a1, a2, a3, a4, a5, a6, a7, a8, a9, a10, a11, a12, a13⟩, rfl, ⟨p0, p1, p2, p3, p4, p5, p6, p7, p8, p9, p10, p11, p12, p13⟩, trivial⟩
def ABooks.ok (x : ABooks) : Prop := (x.Currencies.l.length ≤ maxLen ∧ ∀ y ∈ x.Currencies.l, y.ok) ∧ (x.Calendars.l.length ≤ maxLen ∧ ∀ y ∈ x.Calendars.l, y.ok) ∧ (x.Chart.l.length ≤ maxLen ∧ ∀ y ∈ x.Chart.l, y.ok) ∧ x.Plan.ok ∧ (x.Products.l.length ≤ maxLen ∧ ∀ y ∈ x.Products.l, y.ok) ∧ (x.Accounts.l.length ≤ maxLen ∧ ∀ y ∈ x.Accounts.l, y.ok) ∧ (x.Journal.l.length ≤ maxLen ∧ ∀ y ∈ x.Journal.l, y.ok) ∧ (x.Holds.l.length ≤ maxLen ∧ ∀ y ∈ x.Holds.l, y.ok) ∧ (x.Blocks.l.length ≤ maxLen ∧ ∀ y ∈ x.Blocks.l, y.ok)
def ABooks.fit (x : ABooks) : Prop := (x.Currencies.t = false ∧ x.Currencies.l.length * 24 ≤ cap47 ∧ ∀ y ∈ x.Currencies.l, y.fit) ∧ (x.Calendars.t = false ∧ x.Calendars.l.length * 64 ≤ cap47 ∧ ∀ y ∈ x.Calendars.l, y.fit) ∧ (x.Chart.t = false ∧ x.Chart.l.length * 40 ≤ cap47 ∧ ∀ y ∈ x.Chart.l, y.fit) ∧ (x.Products.t = false ∧ x.Products.l.length * 240 ≤ cap47 ∧ ∀ y ∈ x.Products.l, y.fit) ∧ (x.Accounts.t = false ∧ x.Accounts.l.length * 80 ≤ cap47 ∧ ∀ y ∈ x.Accounts.l, y.fit) ∧ (x.Journal.t = false ∧ x.Journal.l.length * 112 ≤ cap47 ∧ ∀ y ∈ x.Journal.l, y.fit) ∧ (x.Holds.t = false ∧ x.Holds.l.length * 56 ≤ cap47 ∧ ∀ y ∈ x.Holds.l, y.fit) ∧ (x.Blocks.t = false ∧ x.Blocks.l.length * 64 ≤ cap47 ∧ ∀ y ∈ x.Blocks.l, y.fit)
def ABooks.ty : List Ty := [.l (K1 2) 24 ACurrency.ty, .l (K1 3) 64 ACalendar.ty, .l (K1 4) 40 AGl.ty, .i .i64, .i .i64, .i .i64, .i .i64, .i .i64, .i .i64, .i .i64, .i .i64, .i .i64, .i .i64, .i .i64, .i .i64, .i .i64, .i .i64, .l (K1 19) 240 AProduct.ty, .l (K1 7) 80 AAccount.ty, .l (K1 10) 112 AEntry.ty, .l (K1 6) 56 AHold.ty, .l (K1 7) 64 ABlock.ty]
theorem ABooks.ofB (cs : List DV) (h : HasL ABooks.ty cs) : ∃ x : ABooks, DV.a cs = x.dv ∧ x.ok ∧ x.fit := by
 obtain ⟨a0, _, rfl, p0, q0, h⟩ := hasA ACurrency.ofB h
 obtain ⟨a1, _, rfl, p1, q1, h⟩ := hasA ACalendar.ofB h
 obtain ⟨a2, _, rfl, p2, q2, h⟩ := hasA AGl.ofB h
 obtain ⟨a3, _, rfl, p3, h⟩ := hasI h
 obtain ⟨a4, _, rfl, p4, h⟩ := hasI h
 obtain ⟨a5, _, rfl, p5, h⟩ := hasI h
 obtain ⟨a6, _, rfl, p6, h⟩ := hasI h
 obtain ⟨a7, _, rfl, p7, h⟩ := hasI h
 obtain ⟨a8, _, rfl, p8, h⟩ := hasI h
 obtain ⟨a9, _, rfl, p9, h⟩ := hasI h
 obtain ⟨a10, _, rfl, p10, h⟩ := hasI h
 obtain ⟨a11, _, rfl, p11, h⟩ := hasI h
 obtain ⟨a12, _, rfl, p12, h⟩ := hasI h
 obtain ⟨a13, _, rfl, p13, h⟩ := hasI h
 obtain ⟨a14, _, rfl, p14, h⟩ := hasI h
 obtain ⟨a15, _, rfl, p15, h⟩ := hasI h
 obtain ⟨a16, _, rfl, p16, h⟩ := hasI h
 obtain ⟨a17, _, rfl, p17, q17, h⟩ := hasA AProduct.ofB h
 obtain ⟨a18, _, rfl, p18, q18, h⟩ := hasA AAccount.ofB h
 obtain ⟨a19, _, rfl, p19, q19, h⟩ := hasA AEntry.ofB h
 obtain ⟨a20, _, rfl, p20, q20, h⟩ := hasA AHold.ofB h
 obtain ⟨a21, _, rfl, p21, q21, h⟩ := hasA ABlock.ofB h
 obtain rfl := hasL_nil h
 exact ⟨⟨a0, a1, a2, ⟨a3, a4, a5, a6, a7, a8, a9, a10, a11, a12, a13, a14, a15, a16⟩, a17, a18, a19, a20, a21⟩, rfl, ⟨p0, p1, p2, ⟨p3, p4, p5, p6, p7, p8, p9, p10, p11, p12, p13, p14, p15, p16⟩, p17, p18, p19, p20, p21⟩, ⟨q0, q1, q2, q17, q18, q19, q20, q21⟩⟩
def APeriod.ok (x : APeriod) : Prop := inK .i64 x.Account ∧ inK .i64 x.From ∧ inK .i64 x.To ∧ inK .i64 x.Credit ∧ inK .i64 x.Debit ∧ inK .i64 x.Tax ∧ inK .i64 x.Count ∧ x.CreditRest.ok ∧ x.DebitRest.ok
def APeriod.fit (_ : APeriod) : Prop := True
def APeriod.ty : List Ty := [.i .i64, .i .i64, .i .i64, .i .i64, .i .i64, .i .i64, .i .i64, .i .i64, .i .u64, .i .i64, .i .u64]
theorem APeriod.ofB (cs : List DV) (h : HasL APeriod.ty cs) : ∃ x : APeriod, DV.a cs = x.dv ∧ x.ok ∧ x.fit := by
 obtain ⟨a0, _, rfl, p0, h⟩ := hasI h
 obtain ⟨a1, _, rfl, p1, h⟩ := hasI h
 obtain ⟨a2, _, rfl, p2, h⟩ := hasI h
 obtain ⟨a3, _, rfl, p3, h⟩ := hasI h
 obtain ⟨a4, _, rfl, p4, h⟩ := hasI h
 obtain ⟨a5, _, rfl, p5, h⟩ := hasI h
 obtain ⟨a6, _, rfl, p6, h⟩ := hasI h
 obtain ⟨a7, _, rfl, p7, h⟩ := hasI h
 obtain ⟨a8, _, rfl, p8, h⟩ := hasI h
 obtain ⟨a9, _, rfl, p9, h⟩ := hasI h
 obtain ⟨a10, _, rfl, p10, h⟩ := hasI h
 obtain rfl := hasL_nil h
 exact ⟨⟨a0, a1, a2, a3, a4, a5, a6, ⟨a7, a8⟩, ⟨a9, a10⟩⟩, rfl, ⟨p0, p1, p2, p3, p4, p5, p6, ⟨p7, p8⟩, ⟨p9, p10⟩⟩, trivial⟩
def ATerms.ok (x : ATerms) : Prop := inK .i64 x.Method ∧ inK .i64 x.Principal ∧ inK .i64 x.Ppm ∧ inK .i64 x.Start ∧ inK .i64 x.Every ∧ inK .i64 x.Count ∧ inK .i64 x.Balloon ∧ inK .i64 x.Mode ∧ inK .i64 x.PenaltyPpm ∧ inK .i64 x.FeePpm ∧ x.Calendar.length ≤ maxLen ∧ x.Currency.length ≤ maxLen
def ATerms.fit (_ : ATerms) : Prop := True
def ATerms.ty : List Ty := [.i .i64, .i .i64, .i .i64, .i .i64, .i .i64, .i .i64, .i .i64, .i .i64, .i .i64, .i .i64, .s, .s]
theorem ATerms.ofB (cs : List DV) (h : HasL ATerms.ty cs) : ∃ x : ATerms, DV.a cs = x.dv ∧ x.ok ∧ x.fit := by
 obtain ⟨a0, _, rfl, p0, h⟩ := hasI h
 obtain ⟨a1, _, rfl, p1, h⟩ := hasI h
 obtain ⟨a2, _, rfl, p2, h⟩ := hasI h
 obtain ⟨a3, _, rfl, p3, h⟩ := hasI h
 obtain ⟨a4, _, rfl, p4, h⟩ := hasI h
 obtain ⟨a5, _, rfl, p5, h⟩ := hasI h
 obtain ⟨a6, _, rfl, p6, h⟩ := hasI h
 obtain ⟨a7, _, rfl, p7, h⟩ := hasI h
 obtain ⟨a8, _, rfl, p8, h⟩ := hasI h
 obtain ⟨a9, _, rfl, p9, h⟩ := hasI h
 obtain ⟨a10, _, rfl, p10, h⟩ := hasS h
 obtain ⟨a11, _, rfl, p11, h⟩ := hasS h
 obtain rfl := hasL_nil h
 exact ⟨⟨a0, a1, a2, a3, a4, a5, a6, a7, a8, a9, a10, a11⟩, rfl, ⟨p0, p1, p2, p3, p4, p5, p6, p7, p8, p9, p10, p11⟩, trivial⟩
def AChange.ok (x : AChange) : Prop := inK .i64 x.Day ∧ inK .i64 x.Amount ∧ x.Old.ok
def AChange.fit (_ : AChange) : Prop := True
def AChange.ty : List Ty := [.i .i64, .i .i64, .i .i64, .i .i64, .i .i64, .i .i64, .i .i64, .i .i64, .i .i64, .i .i64, .i .i64, .i .i64, .s, .s]
theorem AChange.ofB (cs : List DV) (h : HasL AChange.ty cs) : ∃ x : AChange, DV.a cs = x.dv ∧ x.ok ∧ x.fit := by
 obtain ⟨a0, _, rfl, p0, h⟩ := hasI h
 obtain ⟨a1, _, rfl, p1, h⟩ := hasI h
 obtain ⟨a2, _, rfl, p2, h⟩ := hasI h
 obtain ⟨a3, _, rfl, p3, h⟩ := hasI h
 obtain ⟨a4, _, rfl, p4, h⟩ := hasI h
 obtain ⟨a5, _, rfl, p5, h⟩ := hasI h
 obtain ⟨a6, _, rfl, p6, h⟩ := hasI h
 obtain ⟨a7, _, rfl, p7, h⟩ := hasI h
 obtain ⟨a8, _, rfl, p8, h⟩ := hasI h
 obtain ⟨a9, _, rfl, p9, h⟩ := hasI h
 obtain ⟨a10, _, rfl, p10, h⟩ := hasI h
 obtain ⟨a11, _, rfl, p11, h⟩ := hasI h
 obtain ⟨a12, _, rfl, p12, h⟩ := hasS h
 obtain ⟨a13, _, rfl, p13, h⟩ := hasS h
 obtain rfl := hasL_nil h
 exact ⟨⟨a0, a1, ⟨a2, a3, a4, a5, a6, a7, a8, a9, a10, a11, a12, a13⟩⟩, rfl, ⟨p0, p1, ⟨p2, p3, p4, p5, p6, p7, p8, p9, p10, p11, p12, p13⟩⟩, trivial⟩
def ADue.ok (x : ADue) : Prop := inK .i64 x.No ∧ inK .i64 x.Day ∧ inK .i64 x.Principal ∧ inK .i64 x.Interest
def ADue.fit (_ : ADue) : Prop := True
def ADue.ty : List Ty := [.i .i64, .i .i64, .i .i64, .i .i64]
theorem ADue.ofB (cs : List DV) (h : HasL ADue.ty cs) : ∃ x : ADue, DV.a cs = x.dv ∧ x.ok ∧ x.fit := by
 obtain ⟨a0, _, rfl, p0, h⟩ := hasI h
 obtain ⟨a1, _, rfl, p1, h⟩ := hasI h
 obtain ⟨a2, _, rfl, p2, h⟩ := hasI h
 obtain ⟨a3, _, rfl, p3, h⟩ := hasI h
 obtain rfl := hasL_nil h
 exact ⟨⟨a0, a1, a2, a3⟩, rfl, ⟨p0, p1, p2, p3⟩, trivial⟩
def ALoan.ok (x : ALoan) : Prop := inK .i64 x.Id ∧ inK .i64 x.Account ∧ inK .i64 x.State ∧ inK .i64 x.PaidPrincipal ∧ inK .i64 x.PaidInterest ∧ inK .i64 x.Fee ∧ inK .i64 x.Penalty ∧ inK .i64 x.Charged ∧ inK .i64 x.Provision ∧ inK .i64 x.Loss ∧ inK .i64 x.Recovered ∧ x.Terms.ok ∧ (x.Dues.l.length ≤ maxLen ∧ ∀ y ∈ x.Dues.l, y.ok) ∧ (x.Changes.l.length ≤ maxLen ∧ ∀ y ∈ x.Changes.l, y.ok)
def ALoan.fit (x : ALoan) : Prop := (x.Dues.t = false ∧ x.Dues.l.length * 32 ≤ cap47 ∧ ∀ y ∈ x.Dues.l, y.fit) ∧ (x.Changes.t = false ∧ x.Changes.l.length * 128 ≤ cap47 ∧ ∀ y ∈ x.Changes.l, y.fit)
def ALoan.ty : List Ty := [.i .i64, .i .i64, .i .i64, .i .i64, .i .i64, .i .i64, .i .i64, .i .i64, .i .i64, .i .i64, .i .i64, .i .i64, .i .i64, .i .i64, .i .i64, .i .i64, .i .i64, .i .i64, .i .i64, .i .i64, .i .i64, .s, .s, .l (K1 4) 32 ADue.ty, .l (K1 14) 128 AChange.ty]
theorem ALoan.ofB (cs : List DV) (h : HasL ALoan.ty cs) : ∃ x : ALoan, DV.a cs = x.dv ∧ x.ok ∧ x.fit := by
 obtain ⟨a0, _, rfl, p0, h⟩ := hasI h
 obtain ⟨a1, _, rfl, p1, h⟩ := hasI h
 obtain ⟨a2, _, rfl, p2, h⟩ := hasI h
 obtain ⟨a3, _, rfl, p3, h⟩ := hasI h
 obtain ⟨a4, _, rfl, p4, h⟩ := hasI h
 obtain ⟨a5, _, rfl, p5, h⟩ := hasI h
 obtain ⟨a6, _, rfl, p6, h⟩ := hasI h
 obtain ⟨a7, _, rfl, p7, h⟩ := hasI h
 obtain ⟨a8, _, rfl, p8, h⟩ := hasI h
 obtain ⟨a9, _, rfl, p9, h⟩ := hasI h
 obtain ⟨a10, _, rfl, p10, h⟩ := hasI h
 obtain ⟨a11, _, rfl, p11, h⟩ := hasI h
 obtain ⟨a12, _, rfl, p12, h⟩ := hasI h
 obtain ⟨a13, _, rfl, p13, h⟩ := hasI h
 obtain ⟨a14, _, rfl, p14, h⟩ := hasI h
 obtain ⟨a15, _, rfl, p15, h⟩ := hasI h
 obtain ⟨a16, _, rfl, p16, h⟩ := hasI h
 obtain ⟨a17, _, rfl, p17, h⟩ := hasI h
 obtain ⟨a18, _, rfl, p18, h⟩ := hasI h
 obtain ⟨a19, _, rfl, p19, h⟩ := hasI h
 obtain ⟨a20, _, rfl, p20, h⟩ := hasI h
 obtain ⟨a21, _, rfl, p21, h⟩ := hasS h
 obtain ⟨a22, _, rfl, p22, h⟩ := hasS h
 obtain ⟨a23, _, rfl, p23, q23, h⟩ := hasA ADue.ofB h
 obtain ⟨a24, _, rfl, p24, q24, h⟩ := hasA AChange.ofB h
 obtain rfl := hasL_nil h
 exact ⟨⟨a0, a1, a2, a3, a4, a5, a6, a7, a8, a9, a10, ⟨a11, a12, a13, a14, a15, a16, a17, a18, a19, a20, a21, a22⟩, a23, a24⟩, rfl, ⟨p0, p1, p2, p3, p4, p5, p6, p7, p8, p9, p10, ⟨p11, p12, p13, p14, p15, p16, p17, p18, p19, p20, p21, p22⟩, p23, p24⟩, ⟨q23, q24⟩⟩
def AOrder.ok (x : AOrder) : Prop := inK .i64 x.Id ∧ inK .i64 x.From ∧ inK .i64 x.To ∧ inK .i64 x.Amount ∧ inK .i64 x.Day ∧ inK .i64 x.Every ∧ inK .i64 x.Anchor ∧ inK .i64 x.Until ∧ inK .i64 x.Tries ∧ x.Text.length ≤ maxLen
def AOrder.fit (_ : AOrder) : Prop := True
def AOrder.ty : List Ty := [.i .i64, .i .i64, .i .i64, .i .i64, .i .i64, .i .i64, .i .i64, .i .i64, .i .i64, .s]
theorem AOrder.ofB (cs : List DV) (h : HasL AOrder.ty cs) : ∃ x : AOrder, DV.a cs = x.dv ∧ x.ok ∧ x.fit := by
 obtain ⟨a0, _, rfl, p0, h⟩ := hasI h
 obtain ⟨a1, _, rfl, p1, h⟩ := hasI h
 obtain ⟨a2, _, rfl, p2, h⟩ := hasI h
 obtain ⟨a3, _, rfl, p3, h⟩ := hasI h
 obtain ⟨a4, _, rfl, p4, h⟩ := hasI h
 obtain ⟨a5, _, rfl, p5, h⟩ := hasI h
 obtain ⟨a6, _, rfl, p6, h⟩ := hasI h
 obtain ⟨a7, _, rfl, p7, h⟩ := hasI h
 obtain ⟨a8, _, rfl, p8, h⟩ := hasI h
 obtain ⟨a9, _, rfl, p9, h⟩ := hasS h
 obtain rfl := hasL_nil h
 exact ⟨⟨a0, a1, a2, a3, a4, a5, a6, a7, a8, a9⟩, rfl, ⟨p0, p1, p2, p3, p4, p5, p6, p7, p8, p9⟩, trivial⟩
def AMandate.ok (x : AMandate) : Prop := inK .i64 x.Id ∧ inK .i64 x.Account ∧ inK .i64 x.Limit ∧ inK .i64 x.Signed ∧ inK .i64 x.Used ∧ inK .i64 x.Revoked ∧ x.Creditor.length ≤ maxLen
def AMandate.fit (_ : AMandate) : Prop := True
def AMandate.ty : List Ty := [.i .i64, .i .i64, .i .i64, .i .i64, .i .i64, .i .i64, .s]
theorem AMandate.ofB (cs : List DV) (h : HasL AMandate.ty cs) : ∃ x : AMandate, DV.a cs = x.dv ∧ x.ok ∧ x.fit := by
 obtain ⟨a0, _, rfl, p0, h⟩ := hasI h
 obtain ⟨a1, _, rfl, p1, h⟩ := hasI h
 obtain ⟨a2, _, rfl, p2, h⟩ := hasI h
 obtain ⟨a3, _, rfl, p3, h⟩ := hasI h
 obtain ⟨a4, _, rfl, p4, h⟩ := hasI h
 obtain ⟨a5, _, rfl, p5, h⟩ := hasI h
 obtain ⟨a6, _, rfl, p6, h⟩ := hasS h
 obtain rfl := hasL_nil h
 exact ⟨⟨a0, a1, a2, a3, a4, a5, a6⟩, rfl, ⟨p0, p1, p2, p3, p4, p5, p6⟩, trivial⟩
def ADebit.ok (x : ADebit) : Prop := inK .i64 x.Id ∧ inK .i64 x.Mandate ∧ inK .i64 x.Amount ∧ inK .i64 x.Day ∧ inK .i64 x.Settled ∧ inK .i64 x.Returned ∧ inK .i64 x.Reason ∧ inK .i64 x.State ∧ x.Key.length ≤ maxLen
def ADebit.fit (_ : ADebit) : Prop := True
def ADebit.ty : List Ty := [.i .i64, .i .i64, .i .i64, .i .i64, .i .i64, .i .i64, .i .i64, .i .i64, .s]
theorem ADebit.ofB (cs : List DV) (h : HasL ADebit.ty cs) : ∃ x : ADebit, DV.a cs = x.dv ∧ x.ok ∧ x.fit := by
 obtain ⟨a0, _, rfl, p0, h⟩ := hasI h
 obtain ⟨a1, _, rfl, p1, h⟩ := hasI h
 obtain ⟨a2, _, rfl, p2, h⟩ := hasI h
 obtain ⟨a3, _, rfl, p3, h⟩ := hasI h
 obtain ⟨a4, _, rfl, p4, h⟩ := hasI h
 obtain ⟨a5, _, rfl, p5, h⟩ := hasI h
 obtain ⟨a6, _, rfl, p6, h⟩ := hasI h
 obtain ⟨a7, _, rfl, p7, h⟩ := hasI h
 obtain ⟨a8, _, rfl, p8, h⟩ := hasS h
 obtain rfl := hasL_nil h
 exact ⟨⟨a0, a1, a2, a3, a4, a5, a6, a7, a8⟩, rfl, ⟨p0, p1, p2, p3, p4, p5, p6, p7, p8⟩, trivial⟩
def AMessage.ok (x : AMessage) : Prop := x.Sender.length ≤ maxLen ∧ inK .i64 x.Seq ∧ inK .i64 x.Kind ∧ inK .i64 x.Account ∧ inK .i64 x.Amount ∧ inK .i64 x.Day ∧ x.Text.length ≤ maxLen
def AMessage.fit (_ : AMessage) : Prop := True
def AMessage.ty : List Ty := [.s, .i .i64, .i .i64, .i .i64, .i .i64, .i .i64, .s]
theorem AMessage.ofB (cs : List DV) (h : HasL AMessage.ty cs) : ∃ x : AMessage, DV.a cs = x.dv ∧ x.ok ∧ x.fit := by
 obtain ⟨a0, _, rfl, p0, h⟩ := hasS h
 obtain ⟨a1, _, rfl, p1, h⟩ := hasI h
 obtain ⟨a2, _, rfl, p2, h⟩ := hasI h
 obtain ⟨a3, _, rfl, p3, h⟩ := hasI h
 obtain ⟨a4, _, rfl, p4, h⟩ := hasI h
 obtain ⟨a5, _, rfl, p5, h⟩ := hasI h
 obtain ⟨a6, _, rfl, p6, h⟩ := hasS h
 obtain rfl := hasL_nil h
 exact ⟨⟨a0, a1, a2, a3, a4, a5, a6⟩, rfl, ⟨p0, p1, p2, p3, p4, p5, p6⟩, trivial⟩
def APosting.ok (x : APosting) : Prop := inK .i64 x.Entry ∧ inK .i64 x.Day ∧ inK .i64 x.Amount ∧ x.Text.length ≤ maxLen
def APosting.fit (_ : APosting) : Prop := True
def APosting.ty : List Ty := [.i .i64, .i .i64, .i .i64, .s]
theorem APosting.ofB (cs : List DV) (h : HasL APosting.ty cs) : ∃ x : APosting, DV.a cs = x.dv ∧ x.ok ∧ x.fit := by
 obtain ⟨a0, _, rfl, p0, h⟩ := hasI h
 obtain ⟨a1, _, rfl, p1, h⟩ := hasI h
 obtain ⟨a2, _, rfl, p2, h⟩ := hasI h
 obtain ⟨a3, _, rfl, p3, h⟩ := hasS h
 obtain rfl := hasL_nil h
 exact ⟨⟨a0, a1, a2, a3⟩, rfl, ⟨p0, p1, p2, p3⟩, trivial⟩
def AStatement.ok (x : AStatement) : Prop := inK .i64 x.Account ∧ inK .i64 x.No ∧ inK .i64 x.From ∧ inK .i64 x.To ∧ inK .i64 x.Opening ∧ inK .i64 x.Closing ∧ (x.Lines.l.length ≤ maxLen ∧ ∀ y ∈ x.Lines.l, y.ok)
def AStatement.fit (x : AStatement) : Prop := (x.Lines.t = false ∧ x.Lines.l.length * 40 ≤ cap47 ∧ ∀ y ∈ x.Lines.l, y.fit)
def AStatement.ty : List Ty := [.i .i64, .i .i64, .i .i64, .i .i64, .i .i64, .i .i64, .l (K1 4) 40 APosting.ty]
theorem AStatement.ofB (cs : List DV) (h : HasL AStatement.ty cs) : ∃ x : AStatement, DV.a cs = x.dv ∧ x.ok ∧ x.fit := by
 obtain ⟨a0, _, rfl, p0, h⟩ := hasI h
 obtain ⟨a1, _, rfl, p1, h⟩ := hasI h
 obtain ⟨a2, _, rfl, p2, h⟩ := hasI h
 obtain ⟨a3, _, rfl, p3, h⟩ := hasI h
 obtain ⟨a4, _, rfl, p4, h⟩ := hasI h
 obtain ⟨a5, _, rfl, p5, h⟩ := hasI h
 obtain ⟨a6, _, rfl, p6, q6, h⟩ := hasA APosting.ofB h
 obtain rfl := hasL_nil h
 exact ⟨⟨a0, a1, a2, a3, a4, a5, a6⟩, rfl, ⟨p0, p1, p2, p3, p4, p5, p6⟩, q6⟩
def AUser.ok (x : AUser) : Prop := x.Name.length ≤ maxLen ∧ inK .i64 x.Rights ∧ inK .i64 x.Limit
def AUser.fit (_ : AUser) : Prop := True
def AUser.ty : List Ty := [.s, .i .i64, .i .i64]
theorem AUser.ofB (cs : List DV) (h : HasL AUser.ty cs) : ∃ x : AUser, DV.a cs = x.dv ∧ x.ok ∧ x.fit := by
 obtain ⟨a0, _, rfl, p0, h⟩ := hasS h
 obtain ⟨a1, _, rfl, p1, h⟩ := hasI h
 obtain ⟨a2, _, rfl, p2, h⟩ := hasI h
 obtain rfl := hasL_nil h
 exact ⟨⟨a0, a1, a2⟩, rfl, ⟨p0, p1, p2⟩, trivial⟩
def ACommand.ok (x : ACommand) : Prop := inK .i64 x.Kind ∧ inK .i64 x.Account ∧ inK .i64 x.Other ∧ inK .i64 x.Amount ∧ inK .i64 x.Value ∧ inK .i64 x.Number ∧ x.User.length ≤ maxLen ∧ x.Key.length ≤ maxLen ∧ x.Text.length ≤ maxLen ∧ x.Terms.ok ∧ x.Message.ok ∧ (x.Crashes.l.length ≤ maxLen ∧ ∀ y ∈ x.Crashes.l, inK .i64 y)
def ACommand.fit (x : ACommand) : Prop := (x.Crashes.t = false ∧ x.Crashes.l.length * 8 ≤ cap47)
def ACommand.ty : List Ty := [.i .i64, .i .i64, .i .i64, .i .i64, .i .i64, .i .i64, .s, .s, .s, .i .i64, .i .i64, .i .i64, .i .i64, .i .i64, .i .i64, .i .i64, .i .i64, .i .i64, .i .i64, .s, .s, .s, .i .i64, .i .i64, .i .i64, .i .i64, .i .i64, .s, .l none 8 [.i .i64]]
theorem ACommand.ofB (cs : List DV) (h : HasL ACommand.ty cs) : ∃ x : ACommand, DV.a cs = x.dv ∧ x.ok ∧ x.fit := by
 obtain ⟨a0, _, rfl, p0, h⟩ := hasI h
 obtain ⟨a1, _, rfl, p1, h⟩ := hasI h
 obtain ⟨a2, _, rfl, p2, h⟩ := hasI h
 obtain ⟨a3, _, rfl, p3, h⟩ := hasI h
 obtain ⟨a4, _, rfl, p4, h⟩ := hasI h
 obtain ⟨a5, _, rfl, p5, h⟩ := hasI h
 obtain ⟨a6, _, rfl, p6, h⟩ := hasS h
 obtain ⟨a7, _, rfl, p7, h⟩ := hasS h
 obtain ⟨a8, _, rfl, p8, h⟩ := hasS h
 obtain ⟨a9, _, rfl, p9, h⟩ := hasI h
 obtain ⟨a10, _, rfl, p10, h⟩ := hasI h
 obtain ⟨a11, _, rfl, p11, h⟩ := hasI h
 obtain ⟨a12, _, rfl, p12, h⟩ := hasI h
 obtain ⟨a13, _, rfl, p13, h⟩ := hasI h
 obtain ⟨a14, _, rfl, p14, h⟩ := hasI h
 obtain ⟨a15, _, rfl, p15, h⟩ := hasI h
 obtain ⟨a16, _, rfl, p16, h⟩ := hasI h
 obtain ⟨a17, _, rfl, p17, h⟩ := hasI h
 obtain ⟨a18, _, rfl, p18, h⟩ := hasI h
 obtain ⟨a19, _, rfl, p19, h⟩ := hasS h
 obtain ⟨a20, _, rfl, p20, h⟩ := hasS h
 obtain ⟨a21, _, rfl, p21, h⟩ := hasS h
 obtain ⟨a22, _, rfl, p22, h⟩ := hasI h
 obtain ⟨a23, _, rfl, p23, h⟩ := hasI h
 obtain ⟨a24, _, rfl, p24, h⟩ := hasI h
 obtain ⟨a25, _, rfl, p25, h⟩ := hasI h
 obtain ⟨a26, _, rfl, p26, h⟩ := hasI h
 obtain ⟨a27, _, rfl, p27, h⟩ := hasS h
 obtain ⟨a28, _, rfl, p28, q28, h⟩ := hasN h
 obtain rfl := hasL_nil h
 exact ⟨⟨a0, a1, a2, a3, a4, a5, a6, a7, a8, ⟨a9, a10, a11, a12, a13, a14, a15, a16, a17, a18, a19, a20⟩, ⟨a21, a22, a23, a24, a25, a26, a27⟩, a28⟩, rfl, ⟨p0, p1, p2, p3, p4, p5, p6, p7, p8, ⟨p9, p10, p11, p12, p13, p14, p15, p16, p17, p18, p19, p20⟩, ⟨p21, p22, p23, p24, p25, p26, p27⟩, p28⟩, q28⟩
def ARequest.ok (x : ARequest) : Prop := inK .i64 x.Id ∧ inK .i64 x.Day ∧ inK .i64 x.Until ∧ inK .i64 x.State ∧ x.Maker.length ≤ maxLen ∧ x.Checker.length ≤ maxLen ∧ x.Command.ok
def ARequest.fit (x : ARequest) : Prop := x.Command.fit
def ARequest.ty : List Ty := [.i .i64, .i .i64, .i .i64, .i .i64, .s, .s, .i .i64, .i .i64, .i .i64, .i .i64, .i .i64, .i .i64, .s, .s, .s, .i .i64, .i .i64, .i .i64, .i .i64, .i .i64, .i .i64, .i .i64, .i .i64, .i .i64, .i .i64, .s, .s, .s, .i .i64, .i .i64, .i .i64, .i .i64, .i .i64, .s, .l none 8 [.i .i64]]
theorem ARequest.ofB (cs : List DV) (h : HasL ARequest.ty cs) : ∃ x : ARequest, DV.a cs = x.dv ∧ x.ok ∧ x.fit := by
 obtain ⟨a0, _, rfl, p0, h⟩ := hasI h
 obtain ⟨a1, _, rfl, p1, h⟩ := hasI h
 obtain ⟨a2, _, rfl, p2, h⟩ := hasI h
 obtain ⟨a3, _, rfl, p3, h⟩ := hasI h
 obtain ⟨a4, _, rfl, p4, h⟩ := hasS h
 obtain ⟨a5, _, rfl, p5, h⟩ := hasS h
 obtain ⟨a6, _, rfl, p6, h⟩ := hasI h
 obtain ⟨a7, _, rfl, p7, h⟩ := hasI h
 obtain ⟨a8, _, rfl, p8, h⟩ := hasI h
 obtain ⟨a9, _, rfl, p9, h⟩ := hasI h
 obtain ⟨a10, _, rfl, p10, h⟩ := hasI h
 obtain ⟨a11, _, rfl, p11, h⟩ := hasI h
 obtain ⟨a12, _, rfl, p12, h⟩ := hasS h
 obtain ⟨a13, _, rfl, p13, h⟩ := hasS h
 obtain ⟨a14, _, rfl, p14, h⟩ := hasS h
 obtain ⟨a15, _, rfl, p15, h⟩ := hasI h
 obtain ⟨a16, _, rfl, p16, h⟩ := hasI h
 obtain ⟨a17, _, rfl, p17, h⟩ := hasI h
 obtain ⟨a18, _, rfl, p18, h⟩ := hasI h
 obtain ⟨a19, _, rfl, p19, h⟩ := hasI h
 obtain ⟨a20, _, rfl, p20, h⟩ := hasI h
 obtain ⟨a21, _, rfl, p21, h⟩ := hasI h
 obtain ⟨a22, _, rfl, p22, h⟩ := hasI h
 obtain ⟨a23, _, rfl, p23, h⟩ := hasI h
 obtain ⟨a24, _, rfl, p24, h⟩ := hasI h
 obtain ⟨a25, _, rfl, p25, h⟩ := hasS h
 obtain ⟨a26, _, rfl, p26, h⟩ := hasS h
 obtain ⟨a27, _, rfl, p27, h⟩ := hasS h
 obtain ⟨a28, _, rfl, p28, h⟩ := hasI h
 obtain ⟨a29, _, rfl, p29, h⟩ := hasI h
 obtain ⟨a30, _, rfl, p30, h⟩ := hasI h
 obtain ⟨a31, _, rfl, p31, h⟩ := hasI h
 obtain ⟨a32, _, rfl, p32, h⟩ := hasI h
 obtain ⟨a33, _, rfl, p33, h⟩ := hasS h
 obtain ⟨a34, _, rfl, p34, q34, h⟩ := hasN h
 obtain rfl := hasL_nil h
 exact ⟨⟨a0, a1, a2, a3, a4, a5, ⟨a6, a7, a8, a9, a10, a11, a12, a13, a14, ⟨a15, a16, a17, a18, a19, a20, a21, a22, a23, a24, a25, a26⟩, ⟨a27, a28, a29, a30, a31, a32, a33⟩, a34⟩⟩, rfl, ⟨p0, p1, p2, p3, p4, p5, ⟨p6, p7, p8, p9, p10, p11, p12, p13, p14, ⟨p15, p16, p17, p18, p19, p20, p21, p22, p23, p24, p25, p26⟩, ⟨p27, p28, p29, p30, p31, p32, p33⟩, p34⟩⟩, q34⟩
def AMark.ok (x : AMark) : Prop := inK .i64 x.Day ∧ x.User.length ≤ maxLen ∧ x.Action.length ≤ maxLen ∧ x.Object.length ≤ maxLen ∧ inK .u64 x.Chain
def AMark.fit (_ : AMark) : Prop := True
def AMark.ty : List Ty := [.i .i64, .s, .s, .s, .i .u64]
theorem AMark.ofB (cs : List DV) (h : HasL AMark.ty cs) : ∃ x : AMark, DV.a cs = x.dv ∧ x.ok ∧ x.fit := by
 obtain ⟨a0, _, rfl, p0, h⟩ := hasI h
 obtain ⟨a1, _, rfl, p1, h⟩ := hasS h
 obtain ⟨a2, _, rfl, p2, h⟩ := hasS h
 obtain ⟨a3, _, rfl, p3, h⟩ := hasS h
 obtain ⟨a4, _, rfl, p4, h⟩ := hasI h
 obtain rfl := hasL_nil h
 exact ⟨⟨a0, a1, a2, a3, a4⟩, rfl, ⟨p0, p1, p2, p3, p4⟩, trivial⟩
def ARun.ok (x : ARun) : Prop := inK .i64 x.Next ∧ inK .i64 x.Shards ∧ inK .i64 x.Restarts
def ARun.fit (_ : ARun) : Prop := True
def ARun.ty : List Ty := [.b, .i .i64, .i .i64, .i .i64]
theorem ARun.ofB (cs : List DV) (h : HasL ARun.ty cs) : ∃ x : ARun, DV.a cs = x.dv ∧ x.ok ∧ x.fit := by
 obtain ⟨a0, _, rfl, -, h⟩ := hasB h
 obtain ⟨a1, _, rfl, p1, h⟩ := hasI h
 obtain ⟨a2, _, rfl, p2, h⟩ := hasI h
 obtain ⟨a3, _, rfl, p3, h⟩ := hasI h
 obtain rfl := hasL_nil h
 exact ⟨⟨a0, a1, a2, a3⟩, rfl, ⟨p1, p2, p3⟩, trivial⟩
def AAvail.ok (x : AAvail) : Prop := inK .i64 x.Account ∧ inK .i64 x.Amount ∧ inK .i64 x.Used
def AAvail.fit (_ : AAvail) : Prop := True
def AAvail.ty : List Ty := [.i .i64, .i .i64, .i .i64]
theorem AAvail.ofB (cs : List DV) (h : HasL AAvail.ty cs) : ∃ x : AAvail, DV.a cs = x.dv ∧ x.ok ∧ x.fit := by
 obtain ⟨a0, _, rfl, p0, h⟩ := hasI h
 obtain ⟨a1, _, rfl, p1, h⟩ := hasI h
 obtain ⟨a2, _, rfl, p2, h⟩ := hasI h
 obtain rfl := hasL_nil h
 exact ⟨⟨a0, a1, a2⟩, rfl, ⟨p0, p1, p2⟩, trivial⟩
def AWait.ok (x : AWait) : Prop := inK .i64 x.Account ∧ inK .i64 x.Amount ∧ x.Key.length ≤ maxLen
def AWait.fit (_ : AWait) : Prop := True
def AWait.ty : List Ty := [.i .i64, .i .i64, .s]
theorem AWait.ofB (cs : List DV) (h : HasL AWait.ty cs) : ∃ x : AWait, DV.a cs = x.dv ∧ x.ok ∧ x.fit := by
 obtain ⟨a0, _, rfl, p0, h⟩ := hasI h
 obtain ⟨a1, _, rfl, p1, h⟩ := hasI h
 obtain ⟨a2, _, rfl, p2, h⟩ := hasS h
 obtain rfl := hasL_nil h
 exact ⟨⟨a0, a1, a2⟩, rfl, ⟨p0, p1, p2⟩, trivial⟩
def ANight.ok (x : ANight) : Prop := inK .i64 x.Limit ∧ (x.Avail.l.length ≤ maxLen ∧ ∀ y ∈ x.Avail.l, y.ok) ∧ (x.Queue.l.length ≤ maxLen ∧ ∀ y ∈ x.Queue.l, y.ok)
def ANight.fit (x : ANight) : Prop := (x.Avail.t = false ∧ x.Avail.l.length * 24 ≤ cap47 ∧ ∀ y ∈ x.Avail.l, y.fit) ∧ (x.Queue.t = false ∧ x.Queue.l.length * 32 ≤ cap47 ∧ ∀ y ∈ x.Queue.l, y.fit)
def ANight.ty : List Ty := [.i .i64, .l (K1 3) 24 AAvail.ty, .l (K1 3) 32 AWait.ty]
theorem ANight.ofB (cs : List DV) (h : HasL ANight.ty cs) : ∃ x : ANight, DV.a cs = x.dv ∧ x.ok ∧ x.fit := by
 obtain ⟨a0, _, rfl, p0, h⟩ := hasI h
 obtain ⟨a1, _, rfl, p1, q1, h⟩ := hasA AAvail.ofB h
 obtain ⟨a2, _, rfl, p2, q2, h⟩ := hasA AWait.ofB h
 obtain rfl := hasL_nil h
 exact ⟨⟨a0, a1, a2⟩, rfl, ⟨p0, p1, p2⟩, ⟨q1, q2⟩⟩
def ABank.ok (x : ABank) : Prop := inK .i64 x.Day ∧ inK .i64 x.NextId ∧ x.Home.length ≤ maxLen ∧ x.Books.ok ∧ (x.Periods.l.length ≤ maxLen ∧ ∀ y ∈ x.Periods.l, y.ok) ∧ (x.Loans.l.length ≤ maxLen ∧ ∀ y ∈ x.Loans.l, y.ok) ∧ (x.Orders.l.length ≤ maxLen ∧ ∀ y ∈ x.Orders.l, y.ok) ∧ (x.Mandates.l.length ≤ maxLen ∧ ∀ y ∈ x.Mandates.l, y.ok) ∧ (x.Debits.l.length ≤ maxLen ∧ ∀ y ∈ x.Debits.l, y.ok) ∧ (x.Inbox.l.length ≤ maxLen ∧ ∀ y ∈ x.Inbox.l, y.ok) ∧ (x.Statements.l.length ≤ maxLen ∧ ∀ y ∈ x.Statements.l, y.ok) ∧ (x.Users.l.length ≤ maxLen ∧ ∀ y ∈ x.Users.l, y.ok) ∧ (x.Requests.l.length ≤ maxLen ∧ ∀ y ∈ x.Requests.l, y.ok) ∧ (x.Trail.l.length ≤ maxLen ∧ ∀ y ∈ x.Trail.l, y.ok) ∧ x.Run.ok ∧ x.Night.ok
def ABank.fit (x : ABank) : Prop := x.Books.fit ∧ (x.Periods.t = false ∧ x.Periods.l.length * 88 ≤ cap47 ∧ ∀ y ∈ x.Periods.l, y.fit) ∧ (x.Loans.t = false ∧ x.Loans.l.length * 248 ≤ cap47 ∧ ∀ y ∈ x.Loans.l, y.fit) ∧ (x.Orders.t = false ∧ x.Orders.l.length * 88 ≤ cap47 ∧ ∀ y ∈ x.Orders.l, y.fit) ∧ (x.Mandates.t = false ∧ x.Mandates.l.length * 64 ≤ cap47 ∧ ∀ y ∈ x.Mandates.l, y.fit) ∧ (x.Debits.t = false ∧ x.Debits.l.length * 80 ≤ cap47 ∧ ∀ y ∈ x.Debits.l, y.fit) ∧ (x.Inbox.t = false ∧ x.Inbox.l.length * 72 ≤ cap47 ∧ ∀ y ∈ x.Inbox.l, y.fit) ∧ (x.Statements.t = false ∧ x.Statements.l.length * 72 ≤ cap47 ∧ ∀ y ∈ x.Statements.l, y.fit) ∧ (x.Users.t = false ∧ x.Users.l.length * 32 ≤ cap47 ∧ ∀ y ∈ x.Users.l, y.fit) ∧ (x.Requests.t = false ∧ x.Requests.l.length * 368 ≤ cap47 ∧ ∀ y ∈ x.Requests.l, y.fit) ∧ (x.Trail.t = false ∧ x.Trail.l.length * 64 ≤ cap47 ∧ ∀ y ∈ x.Trail.l, y.fit) ∧ x.Night.fit
def ABank.ty : List Ty := [.i .i64, .i .i64, .s, .l (K1 2) 24 ACurrency.ty, .l (K1 3) 64 ACalendar.ty, .l (K1 4) 40 AGl.ty, .i .i64, .i .i64, .i .i64, .i .i64, .i .i64, .i .i64, .i .i64, .i .i64, .i .i64, .i .i64, .i .i64, .i .i64, .i .i64, .i .i64, .l (K1 19) 240 AProduct.ty, .l (K1 7) 80 AAccount.ty, .l (K1 10) 112 AEntry.ty, .l (K1 6) 56 AHold.ty, .l (K1 7) 64 ABlock.ty, .l (K1 11) 88 APeriod.ty, .l (K1 25) 248 ALoan.ty, .l (K1 10) 88 AOrder.ty, .l (K1 7) 64 AMandate.ty, .l (K1 9) 80 ADebit.ty, .l (K1 7) 72 AMessage.ty, .l (K1 7) 72 AStatement.ty, .l (K1 3) 32 AUser.ty, .l (K1 35) 368 ARequest.ty, .l (K1 5) 64 AMark.ty, .b, .i .i64, .i .i64, .i .i64, .i .i64, .l (K1 3) 24 AAvail.ty, .l (K1 3) 32 AWait.ty]
theorem ABank.ofB (cs : List DV) (h : HasL ABank.ty cs) : ∃ x : ABank, DV.a cs = x.dv ∧ x.ok ∧ x.fit := by
 obtain ⟨a0, _, rfl, p0, h⟩ := hasI h
 obtain ⟨a1, _, rfl, p1, h⟩ := hasI h
 obtain ⟨a2, _, rfl, p2, h⟩ := hasS h
 obtain ⟨a3, _, rfl, p3, q3, h⟩ := hasA ACurrency.ofB h
 obtain ⟨a4, _, rfl, p4, q4, h⟩ := hasA ACalendar.ofB h
 obtain ⟨a5, _, rfl, p5, q5, h⟩ := hasA AGl.ofB h
 obtain ⟨a6, _, rfl, p6, h⟩ := hasI h
 obtain ⟨a7, _, rfl, p7, h⟩ := hasI h
 obtain ⟨a8, _, rfl, p8, h⟩ := hasI h
 obtain ⟨a9, _, rfl, p9, h⟩ := hasI h
 obtain ⟨a10, _, rfl, p10, h⟩ := hasI h
 obtain ⟨a11, _, rfl, p11, h⟩ := hasI h
 obtain ⟨a12, _, rfl, p12, h⟩ := hasI h
 obtain ⟨a13, _, rfl, p13, h⟩ := hasI h
 obtain ⟨a14, _, rfl, p14, h⟩ := hasI h
 obtain ⟨a15, _, rfl, p15, h⟩ := hasI h
 obtain ⟨a16, _, rfl, p16, h⟩ := hasI h
 obtain ⟨a17, _, rfl, p17, h⟩ := hasI h
 obtain ⟨a18, _, rfl, p18, h⟩ := hasI h
 obtain ⟨a19, _, rfl, p19, h⟩ := hasI h
 obtain ⟨a20, _, rfl, p20, q20, h⟩ := hasA AProduct.ofB h
 obtain ⟨a21, _, rfl, p21, q21, h⟩ := hasA AAccount.ofB h
 obtain ⟨a22, _, rfl, p22, q22, h⟩ := hasA AEntry.ofB h
 obtain ⟨a23, _, rfl, p23, q23, h⟩ := hasA AHold.ofB h
 obtain ⟨a24, _, rfl, p24, q24, h⟩ := hasA ABlock.ofB h
 obtain ⟨a25, _, rfl, p25, q25, h⟩ := hasA APeriod.ofB h
 obtain ⟨a26, _, rfl, p26, q26, h⟩ := hasA ALoan.ofB h
 obtain ⟨a27, _, rfl, p27, q27, h⟩ := hasA AOrder.ofB h
 obtain ⟨a28, _, rfl, p28, q28, h⟩ := hasA AMandate.ofB h
 obtain ⟨a29, _, rfl, p29, q29, h⟩ := hasA ADebit.ofB h
 obtain ⟨a30, _, rfl, p30, q30, h⟩ := hasA AMessage.ofB h
 obtain ⟨a31, _, rfl, p31, q31, h⟩ := hasA AStatement.ofB h
 obtain ⟨a32, _, rfl, p32, q32, h⟩ := hasA AUser.ofB h
 obtain ⟨a33, _, rfl, p33, q33, h⟩ := hasA ARequest.ofB h
 obtain ⟨a34, _, rfl, p34, q34, h⟩ := hasA AMark.ofB h
 obtain ⟨a35, _, rfl, -, h⟩ := hasB h
 obtain ⟨a36, _, rfl, p36, h⟩ := hasI h
 obtain ⟨a37, _, rfl, p37, h⟩ := hasI h
 obtain ⟨a38, _, rfl, p38, h⟩ := hasI h
 obtain ⟨a39, _, rfl, p39, h⟩ := hasI h
 obtain ⟨a40, _, rfl, p40, q40, h⟩ := hasA AAvail.ofB h
 obtain ⟨a41, _, rfl, p41, q41, h⟩ := hasA AWait.ofB h
 obtain rfl := hasL_nil h
 exact ⟨⟨a0, a1, a2, ⟨a3, a4, a5, ⟨a6, a7, a8, a9, a10, a11, a12, a13, a14, a15, a16, a17, a18, a19⟩, a20, a21, a22, a23, a24⟩, a25, a26, a27, a28, a29, a30, a31, a32, a33, a34, ⟨a35, a36, a37, a38⟩, ⟨a39, a40, a41⟩⟩, rfl, ⟨p0, p1, p2, ⟨p3, p4, p5, ⟨p6, p7, p8, p9, p10, p11, p12, p13, p14, p15, p16, p17, p18, p19⟩, p20, p21, p22, p23, p24⟩, p25, p26, p27, p28, p29, p30, p31, p32, p33, p34, ⟨p36, p37, p38⟩, ⟨p39, p40, p41⟩⟩, ⟨⟨q3, q4, q5, q20, q21, q22, q23, q24⟩, q25, q26, q27, q28, q29, q30, q31, q32, q33, q34, ⟨q40, q41⟩⟩⟩
def ATask.ok (x : ATask) : Prop := inK .i64 x.Stage ∧ inK .i64 x.Shard
def ATask.fit (_ : ATask) : Prop := True
def ATask.ty : List Ty := [.i .i64, .i .i64]
theorem ATask.ofB (cs : List DV) (h : HasL ATask.ty cs) : ∃ x : ATask, DV.a cs = x.dv ∧ x.ok ∧ x.fit := by
 obtain ⟨a0, _, rfl, p0, h⟩ := hasI h
 obtain ⟨a1, _, rfl, p1, h⟩ := hasI h
 obtain rfl := hasL_nil h
 exact ⟨⟨a0, a1⟩, rfl, ⟨p0, p1⟩, trivial⟩
end Go.Sim
end
