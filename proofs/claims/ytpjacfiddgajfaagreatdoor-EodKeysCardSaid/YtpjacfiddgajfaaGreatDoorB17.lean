/- Part 17 of the proof: CbSimM, CbK52, CbK52n. -/
import Derived.Test.YtpjacfiddgajfaaGreatDoorB3
import Derived.Test.YtpjacfiddgajfaaGreatDoorB2
import Derived.Laws.BitsLemmas
import Derived.Test.YtpjacfiddgajfaaGreatDoorB9
import Derived.Test.YtpjacfiddgajfaaGreatDoorB6
section
namespace Go.Sim
section
variable {E : Env} {lp : (St → Res) → St → Res} {base : Nat} {s : St}
@[simp] theorem evalC_skip : evalC E lp base .skip s = some (.norm, s) := rfl
@[simp] theorem evalC_reg {ops : List IOper} {kill : List Nat} : evalC E lp base (.reg ops kill) s = match evalReg E ops kill s with | some s' => some (.norm, s') | none => none := rfl
@[simp] theorem evalC_regD {ops : List IOper} {bf kill : List Nat} : evalC E lp base (.regD ops bf kill) s = match evalRegD E ops bf kill s with | some s' => some (.norm, s') | none => none := rfl
@[simp] theorem evalC_seq {a b : PC} : evalC E lp base (.seq a b) s = match evalC E lp base a s with | some (.norm, s') => evalC E lp base b s' | r => r := rfl
@[simp] theorem evalC_sq {a b : PC} : evalC E lp base (sq a b) s = match evalC E lp base a s with | some (.norm, s') => evalC E lp base b s' | r => r := rfl
@[simp] theorem evalC_cond {c : Rand} {x y : PC} : evalC E lp base (.cond c x y) s = match rd E s.fr c with | .d (.b true) => evalC E lp base x s | .d (.b false) => evalC E lp base y s | _ => none := rfl
@[simp] theorem evalC_block {id : Nat} {x : PC} : evalC E lp base (.block id x) s = match evalC E lp base x s with | some (.exit j, s') => if j == id then some (.norm, s') else some (.exit j, s') | r => r := rfl
@[simp] theorem evalC_exit {id : Nat} : evalC E lp base (.exit id) s = some (.exit id, s) := rfl
@[simp] theorem evalC_ret : evalC E lp base .ret s = some (.ret, s) := rfl
end
attribute [simp] evalReg evalOps evalOp evalF nadds IOp.adds evalRegD evalOpsD stepD rd Fr.get Fr.set Fr.drop Fr.keep Fr.ren Fr.ofArgs opt optD lenA binA binI asI inR iaddr K.eq loadA subD subP storeA fits Heap.obj Heap.put moveA mkD mkP DV.cells PV.cells K.size gc reach frRefs heapRefs PV.refs PV.refsL place gcH gh orefs Obj.refs PV.ren PV.renL Obj.ren plains mkA
attribute [simp] evalOpD IOp.okD IOp.barr runG ghosts writeS touchS footD storeD chg chgA runs pairsD disj roOf usesL objSame
attribute [simp] putAt purs PV.scal PV.scal1 DV.scal DV.scal1 bslA appA elemsA pur purC purL purT frz frz1 packed Sim.results
theorem wrI {n : Int} (h : -9223372036854775808 ≤ n) (h' : n < 9223372036854775808) : IntKind.i64.wrap n = n := by
 rw [IntKind.wrap_i64]; omega
end Go.Sim
end
section
namespace Go.Sim
set_option maxRecDepth 10000
theorem envv (T : Tab) (f : Nat) (ds : List DV) : T.env.val f ds = T.val f ds := rfl
def inI (n : Int) : Prop := -9223372036854775808 ≤ n ∧ n ≤ 9223372036854775807
theorem itoa52 (T : Tab) (n : Int) (hF : T.F 109 = none) (hX : T.X 109 = itoaX) (h : inI n) : T.val 109 [I n] = some (.d (.s (itoaB n)), false) := by
 rw [val_ext T hF, hX]
 simp [itoaX, h.1, h.2]
theorem binS_add (x y : List UInt8) (h : x.length + y.length < 2 ^ 62) : binS .add x y = some (.s (x ++ y)) := by
 simp only [binS, h, if_true]
theorem eqS_refl (x : List UInt8) : binS .eql x x = some (.b true) := by
 simp [binS]
section
variable (T : Tab) (d s h n : Int) (x y z u : List UInt8) (ld : x.length ≤ 100) (ls : y.length ≤ 100) (lh : z.length ≤ 100)
include ld ls lh
def pre (x y z : List UInt8) : List UInt8 := [101, 111, 100, 47] ++ x ++ [47] ++ y ++ [47] ++ z ++ [47]
theorem val561 (hF : T.F 561 = some F561) (hd : T.val 109 [I d] = some (.d (.s x), false)) (hs : T.val 109 [I s] = some (.d (.s y), false)) (hh : T.val 109 [I h] = some (.d (.s z), false)) :
  T.val 561 [I d, .a [I s, I h]] = some (.d (.s (pre x y z)), false) := by
 rw [val_eq T hF]
 have e1 := binS_add [101, 111, 100, 47] x (by simp; omega)
 have e2 := binS_add ([101, 111, 100, 47] ++ x) [47] (by simp; omega)
 have e3 := binS_add ([101, 111, 100, 47] ++ x ++ [47]) y (by simp; omega)
 have e4 := binS_add ([101, 111, 100, 47] ++ x ++ [47] ++ y) [47] (by simp; omega)
 have e5 := binS_add ([101, 111, 100, 47] ++ x ++ [47] ++ y ++ [47]) z (by simp; omega)
 have e6 := binS_add ([101, 111, 100, 47] ++ x ++ [47] ++ y ++ [47] ++ z) [47] (by simp; omega)
 simp only [List.cons_append, List.nil_append, List.append_assoc] at e1 e2 e3 e4 e5 e6
 simp [F561, envv, hd, hs, hh, e1, e2, e3, e4, e5, e6, pre]
theorem val1011 (hF : T.F 1011 = some F1011) (hd : T.val 517 [I d] = some (.d (.s x), false)) (hs : T.val 517 [I s] = some (.d (.s y), false)) (hh : T.val 517 [I h] = some (.d (.s z), false)) :
  T.val 1011 [I d, .a [I s, I h]] = some (.d (.s (pre x y z)), false) := by
 rw [val_eq T hF]
 have e1 := binS_add [101, 111, 100, 47] x (by simp; omega)
 have e2 := binS_add ([101, 111, 100, 47] ++ x) [47] (by simp; omega)
 have e3 := binS_add ([101, 111, 100, 47] ++ x ++ [47]) y (by simp; omega)
 have e4 := binS_add ([101, 111, 100, 47] ++ x ++ [47] ++ y) [47] (by simp; omega)
 have e5 := binS_add ([101, 111, 100, 47] ++ x ++ [47] ++ y ++ [47]) z (by simp; omega)
 have e6 := binS_add ([101, 111, 100, 47] ++ x ++ [47] ++ y ++ [47] ++ z) [47] (by simp; omega)
 simp only [List.cons_append, List.nil_append, List.append_assoc] at e1 e2 e3 e4 e5 e6
 simp [F1011, envv, hd, hs, hh, e1, e2, e3, e4, e5, e6, pre]
variable (ln : u.length ≤ 100)
include ln
theorem val781 (hF : T.F 781 = some F781) (hp : T.val 561 [I d, .a [I s, I h]] = some (.d (.s (pre x y z)), false)) (hn : T.val 109 [I n] = some (.d (.s u), false)) :
  T.val 781 [I d, .a [I s, I h], I n] = some (.d (.s (pre x y z ++ u)), false) := by
 rw [val_eq T hF]
 have e1 := binS_add (pre x y z) u (by simp [pre]; omega)
 simp [F781, envv, hp, hn, e1]
theorem val1009 (hF : T.F 1009 = some F1009) (hp : T.val 1011 [I d, .a [I s, I h]] = some (.d (.s (pre x y z)), false)) (hn : T.val 517 [I n] = some (.d (.s u), false)) :
  T.val 1009 [I d, .a [I s, I h], I n] = some (.d (.s (pre x y z ++ u)), false) := by
 rw [val_eq T hF]
 have e1 := binS_add (pre x y z) u (by simp [pre]; omega)
 simp [F1009, envv, hp, hn, e1]
end
end Go.Sim
end
section
namespace Go.Sim
set_option maxRecDepth 10000
open Go.Lib (decDigits itoa)
theorem dec_small {u : Nat} (h : u < 10) : decDigits u = [UInt8.ofNat (48 + u)] := by rw [decDigits, dif_pos h]
theorem dec_big {u : Nat} (h : ¬ u < 10) : decDigits u = decDigits (u / 10) ++ decDigits (u % 10) := by
 rw [decDigits, dif_neg h, dec_small (Nat.mod_lt u (by omega))]
theorem dec_len : ∀ (n u : Nat), u < 10 ^ n → (decDigits u).length ≤ n + 1
 | 0, u, h => by rw [dec_small (by simp at h; omega)]; simp
 | n + 1, u, h => by
  by_cases hu : u < 10
  ·rw [dec_small hu]; simp
  ·rw [dec_big hu, List.length_append, dec_small (Nat.mod_lt u (by omega))]
   have := dec_len n (u / 10) (by rw [Nat.pow_succ] at h; omega)
   simp; omega
theorem itoa_nat (u : Nat) : itoa (u : Int) = decDigits u := by rw [itoa, if_neg (by omega)]; simp
theorem itoa_neg (u : Nat) (h : 0 < u) : itoa (-(u : Int)) = 45 :: decDigits u := by rw [itoa, if_pos (by omega)]; simp
theorem itoa_len {n : Int} (h : inI n) : (itoa n).length ≤ 100 := by
 have := h.1; have := h.2
 rw [itoa]
 split
 ·have := dec_len 20 n.natAbs (by omega); simp; omega
 ·have := dec_len 20 n.toNat (by omega); omega
theorem dig517 (T : Tab) (hF : T.F 517 = some F517) (u : Nat) (hu : u < 10) : T.val 517 [I (u : Int)] = some (.d (.s (decDigits u)), false) := by
 rw [val_eq T hF, dec_small hu]
 have hu9 : u = 0 ∨ u = 1 ∨ u = 2 ∨ u = 3 ∨ u = 4 ∨ u = 5 ∨ u = 6 ∨ u = 7 ∨ u = 8 ∨ u = 9 := by omega
 have w : ∀ n : Int, 0 ≤ n → n ≤ 100 → IntKind.i64.wrap n = n := fun n h h' => wrI (by omega) (by omega)
 rcases hu9 with rfl | rfl | rfl | rfl | rfl | rfl | rfl | rfl | rfl | rfl <;> simp [F517, w, bnd]
theorem num517 (T : Tab) (hF : T.F 517 = some F517) : ∀ (m : Nat) (n : Int), n.natAbs ≤ m → inI n → T.val 517 [I n] = some (.d (.s (itoa n)), false)
 | m, n, hm, hn => by
  have a1 := hn.1
  have a2 := hn.2
  rw [val_eq T hF]
  by_cases h0 : n < 0
  ·obtain ⟨u, rfl⟩ : ∃ u : Nat, n = -(u : Int) := ⟨n.natAbs, by omega⟩
   have hu : 0 < u := by omega
   by_cases h1 : -10 < -(u : Int)
   ·have hw : IntKind.i64.wrap (u : Int) = u := wrI (by omega) (by omega)
    have hv := dig517 T hF u (by omega)
    have l1 := dec_len 20 u (by omega)
    have e1 := binS_add [45] (decDigits u) (by simp; omega)
    rw [itoa_neg u hu]
    simp only [List.cons_append, List.nil_append] at e1
    have g1 : (u : Int) < 10 := by omega
    have g2 : u < 10 := by omega
    simp [F517, unA, envv, hu, h1, hw, hv, e1]
   ·have h2 : ¬ u < 10 := by omega
    have q1 : (-(u : Int)).tdiv 10 = -((u / 10 : Nat) : Int) := by rw [Int.neg_tdiv]; rfl
    have q2 : (-(u : Int)).tmod 10 = -((u % 10 : Nat) : Int) := by rw [Int.neg_tmod]; rfl
    have w1 : IntKind.i64.wrap (-((u / 10 : Nat) : Int)) = -((u / 10 : Nat) : Int) := wrI (by omega) (by omega)
    have w2 : IntKind.i64.wrap ((u % 10 : Nat) : Int) = ((u % 10 : Nat) : Int) := wrI (by omega) (by omega)
    have v1 := num517 T hF (m - 1) (-((u / 10 : Nat) : Int)) (by omega) ⟨by omega, by omega⟩
    have v2 := num517 T hF (m - 1) ((u % 10 : Nat) : Int) (by omega) ⟨by omega, by omega⟩
    rw [itoa_neg _ (by omega)] at v1
    rw [itoa_nat] at v2
    have l1 := dec_len 20 (u / 10) (by omega)
    have l2 := dec_len 20 (u % 10) (by omega)
    have e1 := binS_add (45 :: decDigits (u / 10)) (decDigits (u % 10)) (by simp; omega)
    rw [itoa_neg u hu, dec_big h2]
    simp only [List.cons_append] at e1
    generalize -((u / 10 : Nat) : Int) = p at *
    generalize ((u % 10 : Nat) : Int) = r at *
    have g1 : ¬ (u : Int) < 10 := by omega
    simp [F517, unA, envv, hu, h1, q1, q2, w1, w2, v1, v2, e1]
  ·obtain ⟨u, rfl⟩ : ∃ u : Nat, n = (u : Int) := ⟨n.toNat, by omega⟩
   by_cases h1 : u < 10
   ·rw [itoa_nat, ← val_eq T hF]
    exact dig517 T hF u h1
   ·have q1 : (u : Int).tdiv 10 = ((u / 10 : Nat) : Int) := rfl
    have q2 : (u : Int).tmod 10 = ((u % 10 : Nat) : Int) := rfl
    have w1 : IntKind.i64.wrap ((u / 10 : Nat) : Int) = ((u / 10 : Nat) : Int) := wrI (by omega) (by omega)
    have v1 := num517 T hF (m - 1) ((u / 10 : Nat) : Int) (by omega) ⟨by omega, by omega⟩
    have v2 := num517 T hF (m - 1) ((u % 10 : Nat) : Int) (by omega) ⟨by omega, by omega⟩
    rw [itoa_nat] at v1 v2
    have l1 := dec_len 20 (u / 10) (by omega)
    have l2 := dec_len 20 (u % 10) (by omega)
    have e1 := binS_add (decDigits (u / 10)) (decDigits (u % 10)) (by omega)
    rw [itoa_nat, dec_big h1]
    have g1 : ¬ ((u : Int) < 10) := by omega
    generalize ((u / 10 : Nat) : Int) = p at *
    generalize ((u % 10 : Nat) : Int) = r at *
    simp [F517, envv, h0, g1, q1, q2, w1, v1, v2, e1]
 termination_by m => m
end Go.Sim
end
