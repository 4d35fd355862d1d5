/- The definitions that simp may open, to run resolved code by hand. -/
import Derived.Test.YtbbboagbgimaaaaDoorCbSimB
import Derived.Test.YtbbboagbgimaaaaDoorCbIr
import Derived.Laws.BitsLemmas
namespace Go.Sim
section
variable {E : Env} {lp : (St → Res) → St → Res} {base : Nat} {s : St}
@[simp] theorem evalC_skip : evalC E lp base .skip s = some (.norm, s) := rfl
@[simp] theorem evalC_reg {ops : List IOper} {kill : List Nat} : evalC E lp base (.reg ops kill) s = match evalReg E ops kill s with | some s' => some (.norm, s') | none => none := rfl
@[simp] theorem evalC_regD {ops : List IOper} {kill : List Nat} : evalC E lp base (.regD ops kill) s = match evalRegD E ops kill s with | some s' => some (.norm, s') | none => none := rfl
@[simp] theorem evalC_seq {a b : PC} : evalC E lp base (.seq a b) s = match evalC E lp base a s with | some (.norm, s') => evalC E lp base b s' | r => r := rfl
@[simp] theorem evalC_sq {a b : PC} : evalC E lp base (sq a b) s = match evalC E lp base a s with | some (.norm, s') => evalC E lp base b s' | r => r := rfl
@[simp] theorem evalC_cond {c : Rand} {x y : PC} : evalC E lp base (.cond c x y) s = match rd E s.fr c with | .d (.b true) => evalC E lp base x s | .d (.b false) => evalC E lp base y s | _ => none := rfl
@[simp] theorem evalC_block {id : Nat} {x : PC} : evalC E lp base (.block id x) s = match evalC E lp base x s with | some (.exit j, s') => if j == id then some (.norm, s') else some (.exit j, s') | r => r := rfl
@[simp] theorem evalC_exit {id : Nat} : evalC E lp base (.exit id) s = some (.exit id, s) := rfl
@[simp] theorem evalC_ret : evalC E lp base .ret s = some (.ret, s) := rfl
end
theorem lp_end {E : Env} {base : Nat} {live : List Nat} {x : PC} {s : St} {e : Ex} {Q : St → Prop} (he : e ≠ .norm) (h : ∃ s', evalC E lpI base x (gc live base s) = some (e, s') ∧ Q s') : ∃ s', evalC E lpI base (.loop live x) s = some (e, s') ∧ Q s' := by
  obtain ⟨s', h1, h2⟩ := h
  exact ⟨s', lpI_end (f := fun s => evalC E lpI base x (gc live base s)) h1 he, h2⟩
theorem lp_step {E : Env} {base : Nat} {live : List Nat} {x : PC} {s s1 : St} {e : Ex} {Q : St → Prop} (h1 : evalC E lpI base x (gc live base s) = some (.norm, s1)) (h : ∃ s', evalC E lpI base (.loop live x) s1 = some (e, s') ∧ Q s') : ∃ s', evalC E lpI base (.loop live x) s = some (e, s') ∧ Q s' := by
  obtain ⟨s', h2, h3⟩ := h
  refine ⟨s', ?_, h3⟩
  have : evalC E lpI base (.loop live x) s = lpI (fun s => evalC E lpI base x (gc live base s)) s := rfl
  rw [this, lpI_step (f := fun s => evalC E lpI base x (gc live base s)) (s' := s1) h1]
  exact h2
attribute [simp] evalReg evalOps evalOp evalF nadds IOp.adds evalRegD evalOpsD stepD rd Fr.get Fr.set Fr.drop Fr.keep Fr.ren Fr.ofArgs opt optD lenA binA binI asI inR iaddr K.eq loadA subD subP storeA fits Heap.obj Heap.put moveA mkD mkP DV.cells PV.cells K.size gc reach frRefs heapRefs PV.refs PV.refsL place gcH orefs Obj.refs PV.ren PV.renL Obj.ren plains mkA
attribute [simp] putAt purs PV.scal PV.scal1 DV.scal DV.scal1 bslA appA elemsA pur purC purL purT frz frz1 packed Sim.results
theorem wrI {n : Int} (h : -9223372036854775808 ≤ n) (h' : n < 9223372036854775808) : IntKind.i64.wrap n = n := by
  rw [IntKind.wrap_i64]; omega
structure Wide where
  hi : Int
  lo : Int
structure Period where
  (Account From To Credit Debit Tax Count : Int)
  (cr dr : Wide)
def Period.dv (p : Period) : DV := .a [I p.Account, I p.From, I p.To, I p.Credit, I p.Debit, I p.Tax, I p.Count, I p.cr.hi, .i .u64 p.cr.lo, I p.dr.hi, .i .u64 p.dr.lo]
/-- A list of numbers that grows. -/
def outP (out : List DV) : PV := match out with | [] => .d (.l K0 [] true) | _ :: _ => .r 0 K0 0 out.length false
def outH (out : List DV) : Heap := match out with | [] => [] | _ :: _ => [some (.sl K0 0 out)]
theorem getE_set (t : Nat) (v : PV) (t' : Nat) : ∀ fr : Fr, (fr.set t v).get t' = if t' = t then v else fr.get t'
  | [] => by simp only [Fr.set, Fr.get]; split <;> split <;> simp_all
  | (j, x) :: r => by
    simp only [Fr.set]
    split
    · rename_i h; subst h
      simp only [Fr.get]
      split
      · rename_i h; subst h; simp
      · rename_i h; rw [if_neg (fun e => h e.symm)]
    · split
      · by_cases h : t = t'
        · subst h; simp [Fr.get]
        · rw [if_neg (fun e => h e.symm)]; simp only [Fr.get, h, if_false]
      · rename_i h1 h2
        simp only [Fr.get]
        split
        · rename_i h; subst h; rw [if_neg h1]
        · exact getE_set t v t' r
theorem getE_drop (l : List Nat) (t : Nat) : ∀ fr : Fr, (fr.drop l).get t = if l.contains t then .u else fr.get t
  | [] => by simp [Fr.drop, Fr.get]
  | (j, x) :: r => by
    simp only [Fr.drop]
    split
    · rename_i hc
      rw [getE_drop l t r]
      by_cases hj : j = t
      · subst hj; rw [if_pos hc, if_pos hc]
      · simp [Fr.get, hj]
    · rename_i hc
      simp only [Fr.get]
      split
      · rename_i hj; subst hj; rw [if_neg hc]
      · exact getE_drop l t r
theorem purT_out (out : List DV) : purT (outH out) (outP out) = some (.d (.l K0 out false), true) := by
  cases out with
  | nil => rfl
  | cons x xs => simp [outP, outH]
end Go.Sim
