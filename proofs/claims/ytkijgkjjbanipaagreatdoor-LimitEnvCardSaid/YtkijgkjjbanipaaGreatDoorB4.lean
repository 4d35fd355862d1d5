/- Part 4 of the proof: CbSimR, CbSimO, CbSimP, CbSimQ, CbSimS, CbSimT, CbSimU, CbSimU2, CbSimPr, CbSimV, CbSimW0, CbSimW1. -/
import Derived.Test.YtkijgkjjbanipaaGreatDoorB2
import Derived.Test.YtkijgkjjbanipaaGreatDoorB3
import Derived.Laws.Sem
import Derived.Below
import Derived.Laws.Cells
import Derived.ChangeKeysEq
import Derived.Orders
import Derived.Laws.StructEq
import Derived.Laws.CopyRow
import Derived.Laws.Append
import Derived.Laws.Externs
import Derived.CallsIn
import Derived.DefersIn
import Derived.RangeFuncCalls
import Derived.RangeFuncRecord
import Derived.RangeFuncLeaves
import Derived.MapKept
import Derived.Laws.IdiomStrings
import Derived.Laws.BytesArg
set_option linter.all false
section
open Go.RowKit
namespace Go.Sim
abbrev Stab := Nat → Nat → Prop
def flat (v : Value) : Prop := v.oneCell' = true
def mkV (k : K) (c : Nat → Value) : Value := match k with
  | none => c 0
  | some n => .agg ((List.range n).map c).toArray
def At (w : World) (S : Stab) (blk off n : Nat) (c : Nat → Value) : Prop :=
  ∀ m, m < n → w.cell? ⟨blk, off + m, none⟩ = some (c m) ∧ S blk (off + m) ∧ flat (c m)
inductive RelD (w : World) (S : Stab) : DV → Value → Prop
  | b (x : Bool) : RelD w S (.b x) (.bool x)
  | i (k : IntKind) (n : Int) : RelD w S (.i k n) (.int k n)
  | s (l : List UInt8) (x : ByteArray) : x.data.toList = l → RelD w S (.s l) (.string x)
  | np : RelD w S .np (.pointer none)
  | nf : RelD w S .nf .nilFunc
  | ni : RelD w S .ni .nilIface
  | nm : RelD w S .nm (.map none)
  | ifc (t : Nat) (x : DV) (v : Value) : RelD w S x v → RelD w S (.ifc t x) (.iface t v)
  | a (cs : List DV) (vs : List Value) : cs.length = vs.length → (∀ v ∈ vs, flat v) → (∀ j (h : j < cs.length) (h' : j < vs.length), RelD w S cs[j] vs[j]) → RelD w S (.a cs) (.agg vs.toArray)
  | l (k : K) (es : List DV) (t : Bool) (a : Option Addr) (cap : Nat) (blk off : Nat) (c : Nat → Nat → Value) :
      es.length ≤ cap → (t = true → cap = es.length) → (0 < es.length → a = some ⟨blk, off, none⟩) →
      (∀ j, j < es.length → At w S blk (off + j * k.size) k.size (c j)) →
      (∀ j (h : j < es.length), RelD w S es[j] (mkV k (c j))) → RelD w S (.l k es t) (.slice a es.length cap)
inductive Sp where
  | map
  | iter
  | loop (r : Loop)
  | defer
inductive BO where
  | sp (blk : Nat) (x : Sp)
  | pend
  | dead
  | virt
  | at (blk off : Nat) (k : K)
abbrev Pl := Nat → BO
def RelRf (w : World) (β : Pl) (o : Nat) (k : K) (off len : Nat) (t : Bool) (v : Value) : Prop := match β o with
  | .pend => False
  | .dead => True
  | .virt => off = 0 ∧ len = 0 ∧ ∃ a, v = .slice a 0 0
  | .at blk base k' => k' = k ∧ ∃ cap a, v = .slice (some a) len cap ∧ (0 < cap → a = ⟨blk, base + off * k.size, none⟩) ∧ len ≤ cap ∧ (t = true → cap = len) ∧
      ∃ e n, w.shape? blk = some (e, n) ∧ base + (off + cap) * k.size ≤ n
  | .sp _ _ => False
def RelPt (β : Pl) (o i c : Nat) (v : Value) : Prop := match β o with
  | .pend => False
  | .dead => ∃ blk off, v = .pointer (some ⟨blk, off, none⟩)
  | .virt => False
  | .at blk base k => v = .pointer (some ⟨blk, base + i * k.size + c, none⟩)
  | .sp _ _ => False
def RelH (β : Pl) (o : Nat) (v : Value) : Prop := match β o with
  | .dead => (∃ b, v = .map (some b)) ∨ (∃ l, v = .func (.yield l) #[] #[]) ∨ ∃ b, v = .pointer (some ⟨b, 0, none⟩)
  | .sp blk .map => v = .map (some blk)
  | .sp blk .iter => v = .pointer (some ⟨blk, 0, none⟩)
  | .sp blk (.loop _) => v = .func (.yield blk) #[] #[]
  | _ => False
structure Cx where
  μ : Nat → FuncId
inductive RelV (C : Cx) (w : World) (S : Stab) (β : Pl) : PV → Value → Prop
  | u (v : Value) : RelV C w S β .u v
  | d (x : DV) (v : Value) : RelD w S x v → RelV C w S β (.d x) v
  | a (cs : List PV) (vs : List Value) : cs.length = vs.length → (∀ v ∈ vs, flat v) → (∀ j (h : j < cs.length) (h' : j < vs.length), RelV C w S β cs[j] vs[j]) → RelV C w S β (.a cs) (.agg vs.toArray)
  | t (cs : List PV) (vs : List Value) : cs.length = vs.length → (∀ j (h : j < cs.length) (h' : j < vs.length), RelV C w S β cs[j] vs[j]) → RelV C w S β (.t cs) (.tuple vs.toArray)
  | r (o : Nat) (k : K) (off len : Nat) (t : Bool) (v : Value) : flat v → RelRf w β o k off len t v → RelV C w S β (.r o k off len t) v
  | p (o i c : Nat) (v : Value) : flat v → RelPt β o i c v → RelV C w S β (.p o i c) v
  | q (x : DV) (k : K) (c blk off : Nat) (f : Nat → Value) : At w S blk off k.size f → RelD w S x (mkV k f) → RelV C w S β (.q x k c) (.pointer (some ⟨blk, off + c, none⟩))
  | f (n : Nat) (cs : List PV) (vs : List Value) : cs.length = vs.length → (∀ j (h : j < cs.length) (h' : j < vs.length), RelV C w S β cs[j] vs[j]) → RelV C w S β (.f n cs) (.func (.func (C.μ n)) #[] vs.toArray)
  | h (o : Nat) (v : Value) : flat v → RelH β o v → RelV C w S β (.h o) v
  | g (x : PV) (v : Value) : RelV C w S β (.g x) v
  | m (n : Nat) (cs : List PV) (vs : List Value) : cs.length = vs.length → (∀ j (h : j < cs.length) (h' : j < vs.length), RelV C w S β cs[j] vs[j]) → RelV C w S β (.m n cs) (.func (.func (C.μ n)) vs.toArray #[])
  | w (t : Nat) (x : PV) (v : Value) : RelV C w S β x v → RelV C w S β (.w t x) (.iface t v)
theorem RelD.flat_of {w : World} {S : Stab} {x : DV} {v : Value} (h : RelD w S x v) (hx : ∀ cs, x ≠ .a cs) : flat v := by
  cases h <;> first | rfl | exact absurd rfl (hx _)
structure Ext (B : Nat) (w : World) (S : Stab) (w' : World) (S' : Stab) : Prop where
  below : Below B w w'
  stab : ∀ b o, S b o → S' b o
  cell : ∀ b o, S b o → w'.cell? ⟨b, o, none⟩ = w.cell? ⟨b, o, none⟩
  new : ∀ b o, S' b o → S b o ∨ B ≤ b
  shape : ∀ b e n, w.shape? b = some (e, n) → w'.shape? b = some (e, n)
theorem Ext.refl (B : Nat) (w : World) (S : Stab) : Ext B w S w S :=
  ⟨Below.refl _ _, fun _ _ h => h, fun _ _ _ => rfl, fun _ _ h => .inl h, fun _ _ _ h => h⟩
theorem Ext.trans {B : Nat} {w w' w'' : World} {S S' S'' : Stab} (h : Ext B w S w' S') (k : Ext B w' S' w'' S'') : Ext B w S w'' S'' :=
  ⟨h.below.trans k.below, fun b o x => k.stab b o (h.stab b o x), fun b o x => (k.cell b o (h.stab b o x)).trans (h.cell b o x),
   fun b o x => (k.new b o x).elim (h.new b o) .inr, fun b e n x => k.shape b e n (h.shape b e n x)⟩
theorem At.ext {w w' : World} {S S' : Stab} {B blk off n : Nat} {c : Nat → Value} (e : Ext B w S w' S') (h : At w S blk off n c) : At w' S' blk off n c :=
  fun m hm => ⟨(e.cell _ _ (h m hm).2.1).trans (h m hm).1, e.stab _ _ (h m hm).2.1, (h m hm).2.2⟩
theorem RelD.ext {w w' : World} {S S' : Stab} {B : Nat} (e : Ext B w S w' S') {x : DV} {v : Value} (h : RelD w S x v) : RelD w' S' x v := by
  induction h with
  | b x => exact .b x
  | i k n => exact .i k n
  | s l x h => exact .s l x h
  | np => exact .np
  | nf => exact .nf
  | ni => exact .ni
  | nm => exact .nm
  | ifc t x v _ ih => exact .ifc t x v ih
  | a cs vs h1 h2 _ ih => exact .a cs vs h1 h2 ih
  | l k es t a cap blk off c h1 h2 h3 h4 _ ih => exact .l k es t a cap blk off c h1 h2 h3 (fun j hj => (h4 j hj).ext e) ih
theorem At.more {w : World} {S S' : Stab} {blk off n : Nat} {c : Nat → Value} (e : ∀ b o, S b o → S' b o) (h : At w S blk off n c) : At w S' blk off n c :=
  fun m hm => ⟨(h m hm).1, e _ _ (h m hm).2.1, (h m hm).2.2⟩
theorem RelD.more {w : World} {S S' : Stab} (e : ∀ b o, S b o → S' b o) {x : DV} {v : Value} (h : RelD w S x v) : RelD w S' x v := by
  induction h with
  | b x => exact .b x
  | i k n => exact .i k n
  | s l x h => exact .s l x h
  | np => exact .np
  | nf => exact .nf
  | ni => exact .ni
  | nm => exact .nm
  | ifc t x v _ ih => exact .ifc t x v ih
  | a cs vs h1 h2 _ ih => exact .a cs vs h1 h2 ih
  | l k es t a cap blk off c h1 h2 h3 h4 _ ih => exact .l k es t a cap blk off c h1 h2 h3 (fun j hj => (h4 j hj).more e) ih
def Later (β β' : Pl) : Prop := ∀ o, β' o = β o ∨ β' o = .dead ∨ β o = .pend
theorem Later.refl (β : Pl) : Later β β := fun _ => .inl rfl
theorem Later.trans {β β' β'' : Pl} (h : Later β β') (k : Later β' β'') : Later β β'' := fun o => by
  rcases h o with h1 | h1 | h1
  · rcases k o with k1 | k1 | k1
    · exact .inl (k1.trans h1)
    · exact .inr (.inl k1)
    · exact .inr (.inr (h1.symm.trans k1))
  · rcases k o with k1 | k1 | k1
    · exact .inr (.inl (k1.trans h1))
    · exact .inr (.inl k1)
    · rw [h1] at k1; cases k1
  · exact .inr (.inr h1)
theorem RelRf.ext {w w' : World} {S S' : Stab} {B : Nat} (e : Ext B w S w' S') {β β' : Pl} (hb : Later β β') {o : Nat} {k : K} {off len : Nat} {t : Bool} {v : Value}
    (h : RelRf w β o k off len t v) : RelRf w' β' o k off len t v := by
  unfold RelRf at *
  rcases hb o with h1 | h1 | h1
  · rw [h1]
    cases hc : β o with
    | pend => rw [hc] at h; exact h
    | dead => trivial
    | virt => rw [hc] at h; exact h
    | sp _ _ => rw [hc] at h; exact h
    | _ =>
      rename_i blk base k'
      rw [hc] at h
      obtain ⟨h2, cap, a, h3, h3', h4, h5, e', n, h6, h7⟩ := h
      exact ⟨h2, cap, a, h3, h3', h4, h5, e', n, e.shape _ _ _ h6, h7⟩
  · rw [h1]; trivial
  · rw [h1] at h; exact h.elim
theorem RelPt.ext {β β' : Pl} (hb : Later β β') {o i c : Nat} {v : Value} (h : RelPt β o i c v) : RelPt β' o i c v := by
  unfold RelPt at *
  rcases hb o with h1 | h1 | h1
  · rw [h1]; exact h
  · rw [h1]
    cases hc : β o with
    | pend => rw [hc] at h; exact h.elim
    | dead => rw [hc] at h; exact h
    | virt => rw [hc] at h; exact h.elim
    | sp _ _ => rw [hc] at h; exact h.elim
    | _ => rename_i blk base k; rw [hc] at h; exact ⟨_, _, h⟩
  · rw [h1] at h; exact h.elim
theorem RelH.ext {β β' : Pl} (hb : Later β β') {o : Nat} {v : Value} (h : RelH β o v) : RelH β' o v := by
  unfold RelH at *
  rcases hb o with h1 | h1 | h1
  · rw [h1]; exact h
  · rw [h1]
    simp only
    split at h
    · exact h
    · exact .inl ⟨_, h⟩
    · exact .inr (.inr ⟨_, h⟩)
    · exact .inr (.inl ⟨_, h⟩)
    · exact h.elim
  · rw [h1] at h; exact h.elim
theorem RelV.ext {C : Cx} {w w' : World} {S S' : Stab} {B : Nat} (e : Ext B w S w' S') {β β' : Pl} (hb : Later β β') {x : PV} {v : Value}
    (h : RelV C w S β x v) : RelV C w' S' β' x v := by
  induction h with
  | u v => exact .u v
  | d x v h => exact .d x v (h.ext e)
  | a cs vs h1 h2 _ ih => exact .a cs vs h1 h2 ih
  | t cs vs h1 _ ih => exact .t cs vs h1 ih
  | r o k off len t v h0 h => exact .r o k off len t v h0 (h.ext e hb)
  | p o i c v h0 h => exact .p o i c v h0 (h.ext hb)
  | q x k c blk off f h1 h2 => exact .q x k c blk off f (h1.ext e) (h2.ext e)
  | f n cs vs h1 _ ih => exact .f n cs vs h1 ih
  | h o v h0 h => exact .h o v h0 (h.ext hb)
  | g x v => exact .g x v
  | m n cs vs h1 _ ih => exact .m n cs vs h1 ih
  | w t x v _ ih => exact .w t x v ih
def Obj.shape : Obj → K
  | .box k _ => k
  | .sl k _ _ => k
  | _ => none
def OCells (C : Cx) (w : World) (S : Stab) (β : Pl) (cells : Array Value) (blk base : Nat) : Obj → Prop
  | .box k v => base + k.size ≤ cells.size ∧ ∃ f : Nat → Value, (∀ m, m < k.size → cells[base + m]? = some (f m) ∧ flat (f m)) ∧ RelV C w S β v (mkV k f) ∧ ∀ o, ¬ S blk o
  | .sl k ro es => base + es.length * k.size ≤ cells.size ∧ ∃ c : Nat → Nat → Value, (∀ j, j < es.length → ∀ m, m < k.size → cells[base + j * k.size + m]? = some (c j m) ∧ flat (c j m)) ∧
      (∀ j (h : j < es.length), RelD w S es[j] (mkV k (c j))) ∧ ∀ o, base + ro * k.size ≤ o → ¬ S blk o
  | _ => False
def stOf : Nat → LoopState
  | 0 => .ready
  | 1 => .done
  | _ => .busy
def exC : Ex → Code
  | .norm => .skip
  | .exit id => .exit id
  | .ret => .ret
def MRel (w : World) (S : Stab) (es : List (DV × DV)) (ms : Array MapEntry) : Prop :=
  es.length = ms.size ∧ ∀ j (h : j < es.length) (h' : j < ms.size), RelD w S es[j].1 ms[j].key ∧ RelD w S es[j].2 ms[j].val
def SpOK (w : World) (S : Stab) (blk : Nat) : Sp → Obj → Prop
  | .map, .mp es => ∃ ms clock, w.heap[blk]? = some (.map ms clock) ∧ MRel w S es ms
  | .iter, .si l pos => ∃ s : ByteArray, s.data.toList = l ∧ w.heap[blk]? = some (.stringIter s pos)
  | .loop r, .lp st j => w.heap[blk]? = some (.loop { r with state := stOf st, pending := j.map exC })
  | .defer, .df => w.heap[blk]? = some (.deferred (some []))
  | _, _ => False
structure HOK (C : Cx) (B : Nat) (w : World) (S : Stab) (β : Pl) (H : Heap) : Prop where
  live : ∀ o blk base k, β o = .at blk base k → B ≤ blk ∧ ∃ x cells e, H.obj o = some x ∧ x.shape = k ∧ w.heap[blk]? = some (.cells cells e (0, 0)) ∧ OCells C w S β cells blk base x
  dead : ∀ o, β o = .dead → H.obj o = none
  virt : ∀ o, β o = .virt → ∃ k ro, H.obj o = some (.sl k ro [])
  inj : ∀ o o' blk base k base' k', β o = .at blk base k → β o' = .at blk base' k' → o = o'
  out : ∀ o, H.length ≤ o → β o = .pend
  sp : ∀ o blk x, β o = .sp blk x → B ≤ blk ∧ ∃ y, H.obj o = some y ∧ SpOK w S blk x y
  spi : ∀ o o' blk x x', β o = .sp blk x → β o' = .sp blk x' → o = o'
theorem MRel.ext {w w' : World} {S S' : Stab} {B : Nat} (e : Ext B w S w' S') {es : List (DV × DV)} {ms : Array MapEntry} (h : MRel w S es ms) : MRel w' S' es ms :=
  ⟨h.1, fun j hj hj' => ⟨(h.2 j hj hj').1.ext e, (h.2 j hj hj').2.ext e⟩⟩
theorem SpOK.ext {w w' : World} {S S' : Stab} {B blk : Nat} (e : Ext B w S w' S') {x : Sp} {y : Obj} (hb : w'.heap[blk]? = w.heap[blk]?) (h : SpOK w S blk x y) : SpOK w' S' blk x y := by
  unfold SpOK at *
  split at h
  · obtain ⟨ms, clock, h1, h2⟩ := h
    exact ⟨ms, clock, hb.trans h1, h2.ext e⟩
  · obtain ⟨s, h1, h2⟩ := h
    exact ⟨s, h1, hb.trans h2⟩
  · exact hb.trans h
  · exact hb.trans h
  · exact h.elim
theorem SpOK.nocells {w : World} {S : Stab} {blk : Nat} {x : Sp} {y : Obj} (h : SpOK w S blk x y) {c : Array Value} {t : TypeId} {fz : Nat × Nat} (hw : w.heap[blk]? = some (.cells c t fz)) : False := by
  unfold SpOK at h
  split at h
  · obtain ⟨ms, clock, h1, -⟩ := h
    rw [hw] at h1; cases h1
  · obtain ⟨s, -, h1⟩ := h
    rw [hw] at h1; cases h1
  · rw [hw] at h; cases h
  · rw [hw] at h; cases h
  · exact h
theorem HOK.spne {C : Cx} {B : Nat} {w : World} {S : Stab} {β : Pl} {H : Heap} (hH : HOK C B w S β H) {o blk : Nat} {x : Sp} (h : β o = .sp blk x) {c : Array Value} {t : TypeId} {fz : Nat × Nat} {blk' : Nat} (hw : w.heap[blk']? = some (.cells c t fz)) : blk ≠ blk' := by
  rintro rfl
  obtain ⟨-, y, -, h2⟩ := hH.sp o blk x h
  exact h2.nocells hw
def Swf (w : World) (S : Stab) : Prop := ∀ b o, S b o → ∃ v, w.cell? ⟨b, o, none⟩ = some v
end Go.Sim
end
section
open Go.RowKit
namespace Go.Sim
section
variable {P : Program} {N : Names} {C : Cx} {w : World} {S : Stab} {β : Pl} {a : Act}
theorem RelD.nilSlice (k : K) (t : Bool) : RelD w S (.l k [] t) (.slice none 0 0) :=
 .l k [] t none 0 0 0 (fun _ _ => undef) (Nat.le_refl _) (fun _ => rfl) (fun h => absurd h (Nat.lt_irrefl _)) (fun _ hj => absurd hj (Nat.not_lt_zero _)) (fun _ hj => absurd hj (Nat.not_lt_zero _))
theorem conC_sound {z : DV} {v : Value} {d : DV} (h : conC z v = some d) : RelD w S d v ∧ flat v := by
 unfold conC at h
 split at h <;> first
  | (cases h; exact ⟨.b _, rfl⟩) | (cases h; exact ⟨.i _ _, rfl⟩) | (cases h; exact ⟨.s _ _ rfl, rfl⟩) | (cases h; exact ⟨RelD.nilSlice _ _, rfl⟩)
  | (cases h; exact ⟨.np, rfl⟩) | (cases h; exact ⟨.nf, rfl⟩) | (cases h; exact ⟨.ni, rfl⟩) | (cases h; exact ⟨.nm, rfl⟩) | (cases h)
theorem conL_sound : ∀ {zs : List DV} {vs : List Value} {ds : List DV}, conL zs vs = some ds → ds.length = vs.length ∧ (∀ v ∈ vs, flat v) ∧ ∀ j (h : j < ds.length) (h' : j < vs.length), RelD w S ds[j] vs[j]
 | [], [], ds, h => by cases h; exact ⟨rfl, fun v hv => (List.not_mem_nil hv).elim, fun j h => absurd h (Nat.not_lt_zero _)⟩
 | [], _ :: _, ds, h => by cases h
 | _ :: _, [], ds, h => by cases h
 | z :: zs, v :: vs, ds, h => by
  unfold conL at h
  split at h
  ·rename_i x xs hx hxs
   cases h
   obtain ⟨h1, h2, h3⟩ := conL_sound hxs
   obtain ⟨h4, h5⟩ := conC_sound (w := w) (S := S) hx
   refine ⟨by simp [h1], ?_, ?_⟩
   ·intro u hu
    rcases List.mem_cons.1 hu with rfl | hu
    ·exact h5
    ·exact h2 u hu
   ·intro j hj hj'
    cases j with
    | zero => exact h4
    | succ j => exact h3 j (by simpa using hj) (by simpa using hj')
  ·cases h
theorem conD_sound {t : Option TypeId} {v : Value} {d : DV} (h : conD P t v = some d) : RelD w S d v := by
 unfold conD at h
 split at h
 ·rename_i cs
  split at h
  ·cases hc : conL (zeroL P 12 _) cs.toList with
   | none => rw [hc] at h; cases h
   | some ds =>
    rw [hc] at h; cases h
    obtain ⟨h1, h2, h3⟩ := conL_sound (w := w) (S := S) hc
    have := RelD.a ds cs.toList h1 h2 h3
    simpa using this
  ·cases h
 ·exact (conC_sound h).1
structure NOK (P : Program) (N : Names) (C : Cx) (G : Nat → Option (DV × K)) : Prop where
 f : ∀ f x, N.f f = some x → C.μ x.1 = f
 mixed : P.follows .mixedOrders = true
def GOK (N : Names) (G : Nat → Option (DV × K)) (w : World) (S : Stab) : Prop :=
 ∀ g v k, G (N.g g) = some (v, k) → (∃ e, w.shape? g = some (e, k.size)) ∧ ∃ f, At w S g 0 k.size f ∧ RelD w S v (mkV k f)
theorem GOK.ext {G : Nat → Option (DV × K)} {w' : World} {S' : Stab} {B : Nat} (e : Ext B w S w' S') (h : GOK N G w S) : GOK N G w' S' :=
 fun g v k hg => let ⟨⟨t, h0⟩, f, h1, h2⟩ := h g v k hg; ⟨⟨t, e.shape _ _ _ h0⟩, f, h1.ext e, h2.ext e⟩
def FOK (C : Cx) (w : World) (S : Stab) (β : Pl) (fr : Fr) (a : Act) : Prop := ∀ t, RelV C w S β (fr.get t) (a.tmps.getD t undef)
theorem rand_sound {E : Env} (hN : NOK P N C E.G) (hG : GOK N E.G w S) {fr : Fr} (hf : FOK C w S β fr a) {t : Option TypeId} {x : Operand} {r : Rand}
  (h : rand P N t x = some r) : RelV C w S β (rd E fr r) (a.eval x) := by
 unfold rand at h
 split at h
 ·cases h; exact hf _
 ·rename_i v
  cases hc : conD P t v with
  | none => rw [hc] at h; cases h
  | some d => rw [hc] at h; cases h; exact .d _ _ (conD_sound hc)
 ·rename_i g
  cases h
  simp only [rd, Act.eval]
  split
  ·rename_i v k hg
   obtain ⟨-, f, h1, h2⟩ := hG g v k hg
   exact .q v k 0 g 0 f h1 h2
  ·exact .u _
 ·rename_i f
  cases hc : N.f f with
  | none => rw [hc] at h; cases h
  | some x =>
   rw [hc] at h; cases h
   have := RelV.f (C := C) (w := w) (S := S) (β := β) x.1 [] [] rfl (fun j h => absurd h (Nat.not_lt_zero _))
   simpa [rd, Act.eval, hN.f f x hc] using this
end
section
variable {P : Program} {w : World}
theorem info_of_underlying {t : TypeId} {d : TypeDesc} (h : P.underlying t = some d) : ∃ i, P.info? t = some i := by
 unfold Program.underlying at h
 split at h
 ·exact ⟨_, ‹_›⟩
 ·exact ⟨_, ‹_›⟩
 ·cases h
theorem run_und {t : TypeId} {d : TypeDesc} (h : P.underlying t = some d) (w : World) : (underlying t).run P w = .ok d w := by
 simp [underlying, h]
theorem run_size {t : TypeId} {d : TypeDesc} (h : P.underlying t = some d) (w : World) : (sizeOf t).run P w = .ok (P.cellsOf t) w := by
 obtain ⟨i, hi⟩ := info_of_underlying h
 simp [sizeOf, typeInfo, hi, Program.cellsOf]
theorem kq_und {t : TypeId} {k : K} (h : kq P t = some k) : ∃ d, P.underlying t = some d := by
 unfold kq at h
 split at h <;> first | exact ⟨_, ‹_›⟩ | cases h
theorem kq_size {t : TypeId} {k : K} (h : kq P t = some k) : P.cellsOf t = k.size := by
 unfold kq at h
 split at h
 ·cases h; rfl
 ·cases h; rfl
 ·split at h
  ·cases h; assumption
  ·cases h
 ·cases h
theorem run_sizeK {t : TypeId} {k : K} (h : kq P t = some k) (w : World) : (sizeOf t).run P w = .ok k.size w := by
 obtain ⟨d, hd⟩ := kq_und h
 rw [run_size hd, kq_size h]
theorem run_isAggK {t : TypeId} {k : K} (h : kq P t = some k) (w : World) : (isAgg t).run P w = .ok k.isSome w := by
 unfold kq at h
 split at h
 ·rename_i hu; cases h; simp [isAgg, underlying, hu]
 ·rename_i hu; cases h; simp [isAgg, underlying, hu]
 ·rename_i d h1 h2 hu
  split at h
  ·cases h
   cases d <;> simp [isAgg, underlying, hu] <;> simp_all
  ·cases h
 ·cases h
theorem add_at (blk off m : Nat) : (⟨blk, off, none⟩ : Addr).add m = ⟨blk, off + m, none⟩ := by unfold Addr.add; split <;> simp_all
theorem run_loadVarK {t : TypeId} {k : K} (h : kq P t = some k) {blk off : Nat} {c : Nat → Value} (hc : ∀ m, m < k.size → w.cell? ⟨blk, off + m, none⟩ = some (c m)) :
  (loadVar t ⟨blk, off, none⟩).run P w = .ok (mkV k c) w := by
 simp only [loadVar, Sem.run_bind, run_isAggK h, Result.andThen_ok]
 cases k with
 | none =>
  have := hc 0 (by simp [K.size])
  simp only [Nat.add_zero] at this
  simp [this, mkV]
 | some n =>
  have := run_loadCells (P := P) w ⟨blk, off, none⟩ n c (fun j hj => by rw [add_at]; exact hc j hj)
  simp [run_sizeK h, K.size, this, mkV]
end
section
variable {P : Program} {N : Names} {C : Cx} {w : World} {S : Stab} {β : Pl}
theorem mkV_some (n : Nat) (c : Nat → Value) : mkV (some n) c = .agg ((List.range n).map c).toArray := rfl
theorem RelD.cells {k : K} {f : Nat → Value} (hf : ∀ m, m < k.size → flat (f m)) {x : DV} (h : RelD w S x (mkV k f)) (m : Nat) (y : DV) (hy : x.cells[m]? = some y) (hm : m < k.size) : RelD w S y (f m) := by
 cases k with
 | none =>
  have h0 : m = 0 := by simp [K.size] at hm; exact hm
  subst h0
  have hfl := hf 0 (by simp [K.size])
  simp only [mkV] at h
  generalize f 0 = u at *
  cases h <;> first
   | (simp [flat, Value.oneCell'] at hfl; done)
   | (simp [DV.cells] at hy; subst hy; constructor <;> assumption)
 | some n =>
  simp only [mkV_some] at h
  generalize hv : ((List.range n).map f).toArray = vs at h
  cases h with
  | a cs l h1 h2 h3 =>
   have hl : l = (List.range n).map f := by
    have := congrArg Array.toList hv
    simpa using this.symm
   subst hl
   simp only [DV.cells] at hy
   obtain ⟨hj, rfl⟩ := List.getElem?_eq_some_iff.1 hy
   have := h3 m hj (by rw [← h1]; exact hj)
   simpa using this
theorem plains_map : ∀ {cs : List PV} {vs : List DV}, plains cs = some vs → cs = vs.map .d
 | [], vs, h => by cases h; rfl
 | v :: r, vs, h => by
  cases v with
  | d x =>
   simp only [plains] at h
   split at h
   ·rename_i xs hx
    cases h
    simp [plains_map hx]
   ·cases h
  | _ => simp [plains] at h
theorem RelV.cells {k : K} {f : Nat → Value} (hf : ∀ m, m < k.size → flat (f m)) {x : PV} (h : RelV C w S β x (mkV k f)) (m : Nat) (y : PV) (hy : x.cells[m]? = some y) (hm : m < k.size) : RelV C w S β y (f m) := by
 cases k with
 | none =>
  have h0 : m = 0 := by simp [K.size] at hm; exact hm
  subst h0
  have hfl := hf 0 (by simp [K.size])
  simp only [mkV] at h
  generalize f 0 = u at *
  cases h with
  | u v => simp [PV.cells] at hy; subst hy; exact .u _
  | d x v h =>
   have hx : ∀ cs, x ≠ .a cs := by
    rintro cs rfl
    cases h
    simp [flat, Value.oneCell'] at hfl
   have : (PV.d x).cells = [.d x] := by
    unfold PV.cells
    split
    ·rename_i heq; cases heq
    ·rename_i heq; cases heq; exact absurd rfl (hx _)
    ·rfl
   rw [this] at hy
   simp at hy
   subst hy
   exact .d _ _ h
  | a cs l h1 h2 h3 => simp [flat, Value.oneCell'] at hfl
  | t cs l h1 h3 => simp [flat, Value.oneCell'] at hfl
  | r o k off len t v h0 h => simp [PV.cells] at hy; subst hy; exact .r _ _ _ _ _ _ h0 h
  | p o i c v h0 h => simp [PV.cells] at hy; subst hy; exact .p _ _ _ _ h0 h
  | q x k c blk off f h1 h2 => simp [PV.cells] at hy; subst hy; exact .q _ _ _ _ _ _ h1 h2
  | f n cs l h1 h2 => simp [PV.cells] at hy; subst hy; exact .f _ _ _ h1 h2
  | h o v h0 h => simp [PV.cells] at hy; subst hy; exact .h _ _ h0 h
  | g x v => simp [PV.cells] at hy; subst hy; exact .g _ _
  | m n cs l h1 h2 => simp [PV.cells] at hy; subst hy; exact .m _ _ _ h1 h2
  | w t x v h1 => simp [PV.cells] at hy; subst hy; exact .w _ _ _ h1
 | some n =>
  simp only [mkV_some] at h
  generalize hv : ((List.range n).map f).toArray = vs at h
  have hl : ∀ l : List Value, l.toArray = vs → l = (List.range n).map f := by
   intro l hl
   subst hv
   simpa using congrArg Array.toList hl
  cases h with
  | u v =>
   simp only [PV.cells] at hy
   cases m with
   | zero => simp at hy; subst hy; exact .u _
   | succ m => simp at hy
  | d x v h =>
   cases x with
   | a cs =>
    simp only [PV.cells, List.getElem?_map] at hy
    cases hc : cs[m]? with
    | none => rw [hc] at hy; cases hy
    | some z =>
     rw [hc] at hy; cases hy
     subst hv
     exact .d _ _ (RelD.cells (k := some n) hf h m z (by simpa [DV.cells] using hc) hm)
   | _ => cases h
  | a cs l h1 h2 h3 =>
   have := hl l rfl
   subst this
   simp only [PV.cells] at hy
   obtain ⟨hj, rfl⟩ := List.getElem?_eq_some_iff.1 hy
   have := h3 m hj (by rw [← h1]; exact hj)
   simpa using this
  | r o k off len t v h0 h => simp [flat, Value.oneCell'] at h0
  | p o i c v h0 h => simp [flat, Value.oneCell'] at h0
  | h o v h0 h => simp [flat, Value.oneCell'] at h0
  | g x v =>
   simp only [PV.cells] at hy
   cases m with
   | zero => simp at hy; subst hy; exact .g _ _
   | succ m => simp at hy
theorem mkD_rel {k : K} {cs : List DV} {x : DV} {g : Nat → Value} (h : mkD k cs = some x) (hr : ∀ m y, cs[m]? = some y → m < k.size → RelD w S y (g m)) (hf : ∀ m, m < k.size → flat (g m)) : RelD w S x (mkV k g) := by
 cases k with
 | none =>
  simp only [mkD] at h
  split at h
  ·cases h; exact hr 0 _ rfl (by simp [K.size])
  ·cases h
 | some n =>
  simp only [mkD] at h
  split at h
  ·rename_i hl
   cases h
   rw [mkV_some]
   refine .a cs _ (by simp [hl]) ?_ ?_
   ·intro v hv
    obtain ⟨m, hm, rfl⟩ := List.mem_map.1 hv
    exact hf m (by simpa [K.size] using hm)
   ·intro j hj hj'
    have := hr j cs[j] (List.getElem?_eq_getElem hj) (by simp [K.size]; omega)
    simpa using this
  ·cases h
theorem mkP_rel {k : K} {cs : List PV} {x : PV} {g : Nat → Value} (h : mkP k cs = some x) (hr : ∀ m y, cs[m]? = some y → m < k.size → RelV C w S β y (g m)) (hf : ∀ m, m < k.size → flat (g m)) : RelV C w S β x (mkV k g) := by
 cases k with
 | none =>
  simp only [mkP] at h
  split at h
  ·cases h; exact hr 0 _ rfl (by simp [K.size])
  ·cases h
 | some n =>
  simp only [mkP] at h
  split at h
  ·rename_i hl
   cases h
   have hfl : ∀ v ∈ (List.range n).map g, flat v := by
    intro v hv
    obtain ⟨m, hm, rfl⟩ := List.mem_map.1 hv
    exact hf m (by simpa [K.size] using hm)
   have hall : ∀ j (h : j < cs.length) (h' : j < ((List.range n).map g).length), RelV C w S β cs[j] ((List.range n).map g)[j] := by
    intro j hj hj'
    have := hr j cs[j] (List.getElem?_eq_getElem hj) (by simp [K.size]; omega)
    simpa using this
   rw [mkV_some]
   unfold mkA
   split
   ·rename_i vs hp
    have := plains_map hp
    subst this
    refine .d _ _ (.a vs _ (by simpa using hl) hfl ?_)
    intro j hj hj'
    have h1 := hall j (by simpa using hj) hj'
    simp only [List.getElem_map] at h1
    cases h1 with
    | d _ _ h => simpa using h
   ·exact .a cs _ (by simp [hl]) hfl hall
  ·cases h
theorem K.eq_spec {k k' : K} (h : K.eq k k' = true) : k = k' := by
 cases k <;> cases k' <;> simp_all [K.eq]
theorem getElem?_drop_take {α : Type} {l : List α} {c n m : Nat} {y : α} (h : ((l.drop c).take n)[m]? = some y) : l[c + m]? = some y ∧ m < n := by
 rw [List.getElem?_take] at h
 split at h
 ·rw [List.getElem?_drop] at h; exact ⟨h, by assumption⟩
 ·cases h
theorem subD_rel {kv k : K} {v x : DV} {c : Nat} {f : Nat → Value} (h : subD kv v c k = some x) (hf : ∀ m, m < kv.size → flat (f m)) (hv : RelD w S v (mkV kv f)) :
  RelD w S x (mkV k (fun m => f (c + m))) ∧ c + k.size ≤ kv.size := by
 unfold subD at h
 split at h
 ·rename_i hc
  simp only [Bool.and_eq_true, beq_iff_eq] at hc
  obtain ⟨rfl, hk⟩ := hc
  have := K.eq_spec hk
  subst this
  cases h
  simpa using hv
 ·split at h
  ·rename_i hle
   refine ⟨mkD_rel h ?_ fun m hm => hf _ (by omega), hle⟩
   intro m y hy hm
   obtain ⟨h1, h2⟩ := getElem?_drop_take hy
   exact hv.cells hf (c + m) y h1 (by omega)
  ·cases h
theorem subP_rel {kv k : K} {v x : PV} {c : Nat} {f : Nat → Value} (h : subP kv v c k = some x) (hf : ∀ m, m < kv.size → flat (f m)) (hv : RelV C w S β v (mkV kv f)) :
  RelV C w S β x (mkV k (fun m => f (c + m))) ∧ c + k.size ≤ kv.size := by
 unfold subP at h
 split at h
 ·rename_i hc
  simp only [Bool.and_eq_true, beq_iff_eq] at hc
  obtain ⟨rfl, hk⟩ := hc
  have := K.eq_spec hk
  subst this
  cases h
  simpa using hv
 ·split at h
  ·rename_i hle
   refine ⟨mkP_rel h ?_ fun m hm => hf _ (by omega), hle⟩
   intro m y hy hm
   obtain ⟨h1, h2⟩ := getElem?_drop_take hy
   exact hv.cells hf (c + m) y h1 (by omega)
  ·cases h
theorem cell_of_heap {w : World} {blk j : Nat} {cells : Array Value} {e : TypeId} {fz : Nat × Nat} {v : Value} (h : w.heap[blk]? = some (.cells cells e fz)) (hj : cells[j]? = some v) : w.cell? ⟨blk, j, none⟩ = some v := by
 simp [World.cell?, h, hj]
theorem loadA_sound {B : Nat} {H : Heap} (hH : HOK C B w S β H) {t : TypeId} {k : K} (hk : kq P t = some k) {x v : PV} {u : Value} (hx : RelV C w S β x u) (h : loadA H k x = some v) :
  ∃ u', (Instr.loadAt t u).run P w = .ok u' w ∧ RelV C w S β v u' := by
 unfold loadA at h
 split at h
 ·rename_i o i c
  cases hx with
  | p _ _ _ _ h0 hp =>
  unfold RelPt at hp
  split at hp
  ·exact hp.elim
  ·rename_i hb; rw [hH.dead o hb] at h; cases h
  ·exact hp.elim
  ·rename_i blk base k' hb
   subst hp
   obtain ⟨hB, x', cells, e, ho, hs, hw, hc⟩ := hH.live o blk base k' hb
   rw [ho] at h
   cases x' with
   | box kb y =>
    simp only at h
    simp only [Obj.shape] at hs
    subst hs
    split at h
    ·rename_i hi
     simp only [beq_iff_eq] at hi
     subst hi
     obtain ⟨-, f, hf, hr, -⟩ := hc
     obtain ⟨h1, h2⟩ := subP_rel h (fun m hm => (hf m hm).2) hr
     refine ⟨_, ?_, h1⟩
     simp only [Instr.loadAt, Instr.sureAddr, Sem.run_bind, Sem.run_pure, Result.andThen_ok]
     refine run_loadVarK hk ?_
     intro m hm
     have := (hf (c + m) (by omega)).1
     exact cell_of_heap hw (by simpa [Nat.add_assoc] using this)
    ·cases h
   | sl kb ro es =>
    simp only at h
    simp only [Obj.shape] at hs
    subst hs
    split at h
    ·rename_i ee he
     obtain ⟨hj, rfl⟩ := List.getElem?_eq_some_iff.1 he
     split at h
     ·rename_i xx hx
      cases h
      obtain ⟨-, cf, hf, hr, -⟩ := hc
      obtain ⟨h1, h2⟩ := subD_rel hx (fun m hm => (hf i hj m hm).2) (hr i hj)
      refine ⟨_, ?_, .d _ _ h1⟩
      simp only [Instr.loadAt, Instr.sureAddr, Sem.run_bind, Sem.run_pure, Result.andThen_ok]
      refine run_loadVarK hk ?_
      intro m hm
      have := (hf i hj (c + m) (by omega)).1
      exact cell_of_heap hw (by simpa [Nat.add_assoc] using this)
     ·cases h
    ·cases h
   | _ => simp at h
  ·exact hp.elim
 ·rename_i v0 kv c
  split at h
  ·rename_i xx hxx
   cases h
   cases hx with
   | q _ _ _ blk off f h1 h2 =>
   obtain ⟨h3, h4⟩ := subD_rel hxx (fun m hm => (h1 m hm).2.2) h2
   refine ⟨_, ?_, .d _ _ h3⟩
   simp only [Instr.loadAt, Instr.sureAddr, Sem.run_bind, Sem.run_pure, Result.andThen_ok]
   refine run_loadVarK hk ?_
   intro m hm
   have := (h1 (c + m) (by omega)).1
   simpa [Nat.add_assoc] using this
  ·cases h
 ·cases h
end
end Go.Sim
end
section
open Go.RowKit
namespace Go.Sim
section
variable {P : Program} {N : Names} {C : Cx} {w : World} {S : Stab} {β : Pl} {B : Nat} {H : Heap}
theorem asI_rel {x : PV} {u : Value} {n : Int} (h : RelV C w S β x u) (hx : asI x = some n) : ∃ k, u = .int k n := by
  unfold asI at hx
  split at hx
  · cases hx
    cases h with
    | d _ _ h => cases h; exact ⟨_, rfl⟩
  · cases hx
theorem moveA_rel {x y : PV} {u : Value} {off : Nat} (h : RelV C w S β x u) (hx : moveA off x = some y) :
    ∃ blk o, u = .pointer (some ⟨blk, o, none⟩) ∧ RelV C w S β y (.pointer (some ⟨blk, o + off, none⟩)) := by
  unfold moveA at hx
  split at hx
  · cases hx
    cases h with
    | p o i c _ h0 h =>
    unfold RelPt at h
    split at h
    · exact h.elim
    · rename_i hb
      obtain ⟨blk, o', rfl⟩ := h
      exact ⟨blk, o', rfl, .p _ _ _ _ rfl (by unfold RelPt; rw [hb]; exact ⟨_, _, rfl⟩)⟩
    · exact h.elim
    · rename_i blk base k hb
      subst h
      exact ⟨_, _, rfl, .p _ _ _ _ rfl (by unfold RelPt; rw [hb]; simp [Nat.add_assoc])⟩
    · exact h.elim
  · cases hx
    cases h with
    | q x k c blk o f h1 h2 =>
    refine ⟨_, _, rfl, ?_⟩
    rename_i c
    have := RelV.q (C := C) (β := β) _ _ (c + off) blk o f h1 h2
    simpa [Nat.add_assoc] using this
  · cases hx
theorem run_fieldAt {s f : Nat} {fd : Field} {k : K} (hs : fieldAt P s f = some fd) (hk : kq P fd.type = some k) (hz : k.size ≠ 0) (blk off : Nat) (w : World) :
    (Instr.fieldAt s (.pointer (some ⟨blk, off, none⟩)) f).run P w = .ok (.pointer (some ⟨blk, off + fd.offset, none⟩)) w := by
  unfold fieldAt at hs
  split at hs
  · rename_i fs hu
    simp [Instr.fieldAt, run_und hu, hs, Instr.sureAddr, fieldPlace, run_sizeK hk, hz, add_at]
  · cases hs
theorem run_part {t : TypeId} {k : K} (hk : kq P t = some k) {vs : List Value} {off : Nat} (hle : off + k.size ≤ vs.length) (w : World) :
    (part t vs.toArray off).run P w = .ok (mkV k (fun m => vs.getD (off + m) undef)) w := by
  simp only [part, Sem.run_bind, run_isAggK hk, Result.andThen_ok]
  cases k with
  | none =>
    have : off < vs.length := by simp [K.size] at hle; omega
    simp [mkV, List.getD, List.getElem?_eq_getElem this]
  | some n =>
    simp only [Option.isSome_some, if_true, Sem.run_bind, run_sizeK hk, Result.andThen_ok, K.size, Sem.run_pure, mkV]
    congr 2
    apply Array.ext'
    simp only [Array.toList_extract]
    apply List.ext_getElem?
    intro j
    simp only [K.size] at hle
    rw [List.extract_eq_take_drop]
    simp only [List.getElem?_take, List.getElem?_drop, List.getElem?_map]
    by_cases hj : j < n
    · have : off + j < vs.length := by omega
      simp [hj, List.getD, List.getElem?_eq_getElem this]
    · simp [hj]
theorem inR_spec {n : Int} {len j : Nat} (h : inR n len = some j) : 0 ≤ n ∧ n < len ∧ j = n.toNat ∧ j < len := by
  unfold inR at h
  split at h
  · cases h; omega
  · cases h
theorem run_indexAt_arr {t e : TypeId} {n : Nat} {k : K} (hu : P.underlying t = some (.array n e)) (hk : kq P e = some k) {i : Int} {j : Nat} (hj : inR i n = some j) (ki : IntKind) (blk off : Nat) (w : World) :
    (Instr.indexAt t (.pointer (some ⟨blk, off, none⟩)) (.int ki i)).run P w = .ok (.pointer (some ⟨blk, off + j * k.size, none⟩)) w := by
  obtain ⟨h1, h2, h3, h4⟩ := inR_spec hj
  subst h3
  simp [Instr.indexAt, asIntOf, run_und hu, Instr.sureAddr, h1, h2, run_sizeK hk, add_at]
theorem run_indexAt_slice {t e : TypeId} {k : K} (hu : P.underlying t = some (.slice e)) (hk : kq P e = some k) {i : Int} {len j cap : Nat} (hj : inR i len = some j) (ki : IntKind) (blk off : Nat) (w : World) :
    (Instr.indexAt t (.slice (some ⟨blk, off, none⟩) len cap) (.int ki i)).run P w = .ok (.pointer (some ⟨blk, off + j * k.size, none⟩)) w := by
  obtain ⟨h1, h2, h3, h4⟩ := inR_spec hj
  subst h3
  simp [Instr.indexAt, asIntOf, run_und hu, h1, h2, run_sizeK hk, add_at]
theorem iaddr_sound (hH : HOK C B w S β H) {t e : TypeId} {k : K} (hu : P.underlying t = some (.slice e)) (hk : kq P e = some k) {x i v : PV} {ux ui : Value}
    (hx : RelV C w S β x ux) (hi : RelV C w S β i ui) (h : iaddr H k x i = some v) :
    ∃ u, (Instr.indexAt t ux ui).run P w = .ok u w ∧ RelV C w S β v u := by
  unfold iaddr at h
  split at h
  · cases h
  · rename_i n hn
    obtain ⟨ki, rfl⟩ := asI_rel hi hn
    split at h
    · rename_i k' es tt
      split at h
      · rename_i j hj
        split at h
        · rename_i e' he
          split at h
          · rename_i hke
            have := K.eq_spec hke
            subst this
            cases h
            obtain ⟨hjl, rfl⟩ := List.getElem?_eq_some_iff.1 he
            cases hx with
            | d _ _ hx =>
            cases hx with
            | l _ _ _ a cap blk off c h1 h2 h3 h4 h5 =>
            have := h3 (by omega)
            subst this
            refine ⟨_, run_indexAt_slice hu hk hj ki blk off w, ?_⟩
            exact .q _ _ 0 blk (off + j * k.size) (c j) (h4 j hjl) (h5 j hjl)
          · cases h
        · cases h
      · cases h
    · rename_i o k' off len tt
      split at h
      · rename_i j k'' ro es hj ho
        split at h
        · rename_i hc
          simp only [Bool.and_eq_true, decide_eq_true_eq] at hc
          obtain ⟨⟨hk1, hk2⟩, hle⟩ := hc
          have := K.eq_spec hk1
          subst this
          cases h
          obtain ⟨-, -, -, hjl⟩ := inR_spec hj
          cases hx with
          | r _ _ _ _ _ _ h0 hx =>
          unfold RelRf at hx
          split at hx
          · exact hx.elim
          · rename_i hb; rw [hH.dead o hb] at ho; cases ho
          · omega
          · rename_i blk base k3 hb
            obtain ⟨h1, cap, a, h2, h2', h3, h4, h5⟩ := hx
            subst h1
            subst h2
            have := h2' (by omega)
            subst this
            refine ⟨_, run_indexAt_slice hu hk hj ki blk _ w, .p _ _ _ _ rfl ?_⟩
            unfold RelPt
            rw [hb]
            simp only [Nat.add_mul, Nat.add_assoc, Nat.add_zero]
          · exact hx.elim
        · cases h
      · cases h
    · cases h
def RelO (C : Cx) (w : World) (S : Stab) (β : Pl) : Option PV → Option Value → Prop
  | none, none => True
  | some x, some u => RelV C w S β x u
  | _, _ => False
theorem run_sliceBound {x : PV} {u : Value} (hx : RelV C w S β x u) {d top m : Nat} (h : bnd d top (some x) = some m) {y : Nat} (hy : top ≤ y) (code : BoundsCode) :
    (Instr.sliceBound u y code).run P w = .ok m w ∧ m ≤ top := by
  simp only [bnd] at h
  split at h
  · rename_i n hn
    obtain ⟨k, rfl⟩ := asI_rel hx hn
    split at h
    · rename_i hc
      cases h
      have : 0 ≤ n ∧ n ≤ (y : Int) := by omega
      refine ⟨by simp [Instr.sliceBound, asIntOf, this], by omega⟩
    · cases h
  · cases h
theorem run_bounds {isS : Bool} {lo hi mx : Option PV} {ulo uhi umx : Option Value} (h1 : RelO C w S β lo ulo) (h2 : RelO C w S β hi uhi) (h3 : RelO C w S β mx umx) (hmh : (mx.isSome && hi.isNone) = false)
    {len cap m h l : Nat} (hlc : len ≤ cap) (hm : bnd len len mx = some m) (hh : bnd m m hi = some h) (hl : bnd 0 h lo = some l) :
    ∃ m', (Instr.sliceBounds isS len cap ulo uhi umx).run P w = .ok (l, h, m') w ∧ l ≤ h ∧ h ≤ len ∧ h ≤ m' ∧ m' ≤ cap ∧ (mx.isSome = true → m' = m) ∧ (mx.isSome = false → m' = cap ∧ m = len) := by
  cases mx with
  | none =>
    cases umx with
    | some _ => exact h3.elim
    | none =>
    simp only [bnd, Option.some.injEq] at hm
    subst hm
    cases hi with
    | none =>
      cases uhi with
      | some _ => exact h2.elim
      | none =>
      simp only [bnd, Option.some.injEq] at hh
      subst hh
      cases lo with
      | none =>
        cases ulo with
        | some _ => exact h1.elim
        | none =>
        simp only [bnd, Option.some.injEq] at hl
        subst hl
        exact ⟨cap, by simp [Instr.sliceBounds], by simp; omega⟩
      | some x =>
        cases ulo with
        | none => exact h1.elim
        | some u =>
        obtain ⟨e, he⟩ := run_sliceBound (P := P) h1 hl (Nat.le_refl len) .sliceB
        exact ⟨cap, by simp [Instr.sliceBounds, e], by simp; omega⟩
    | some y =>
      cases uhi with
      | none => exact h2.elim
      | some uy =>
      obtain ⟨e1, he1⟩ := run_sliceBound (P := P) h2 hh hlc (if isS then .sliceAcap else .sliceAlen)
      cases lo with
      | none =>
        cases ulo with
        | some _ => exact h1.elim
        | none =>
        simp only [bnd, Option.some.injEq] at hl
        subst hl
        exact ⟨cap, by simp [Instr.sliceBounds, e1], by simp; omega⟩
      | some x =>
        cases ulo with
        | none => exact h1.elim
        | some u =>
        obtain ⟨e, he⟩ := run_sliceBound (P := P) h1 hl (Nat.le_refl h) .sliceB
        exact ⟨cap, by simp [Instr.sliceBounds, e, e1], by simp; omega⟩
  | some z =>
    cases umx with
    | none => exact h3.elim
    | some uz =>
    obtain ⟨e0, he0⟩ := run_sliceBound (P := P) h3 hm hlc (if isS then .slice3Acap else .slice3Alen)
    cases hi with
    | none => simp at hmh
    | some y =>
      cases uhi with
      | none => exact h2.elim
      | some uy =>
      obtain ⟨e1, he1⟩ := run_sliceBound (P := P) h2 hh (Nat.le_refl m) .slice3B
      cases lo with
      | none =>
        cases ulo with
        | some _ => exact h1.elim
        | none =>
        simp only [bnd, Option.some.injEq] at hl
        subst hl
        exact ⟨m, by simp [Instr.sliceBounds, e0, e1], by simp; omega⟩
      | some x =>
        cases ulo with
        | none => exact h1.elim
        | some u =>
        obtain ⟨e, he⟩ := run_sliceBound (P := P) h1 hl (Nat.le_refl h) .slice3C
        exact ⟨m, by simp [Instr.sliceBounds, e0, e, e1], by simp; omega⟩
theorem sl_sound (hH : HOK C B w S β H) {t e : TypeId} {k : K} (hu : P.underlying t = some (.slice e)) (hk : kq P e = some k) {x v : PV} {ux : Value} {lo hi mx : Option PV} {ulo uhi umx : Option Value}
    (hx : RelV C w S β x ux) (h1 : RelO C w S β lo ulo) (h2 : RelO C w S β hi uhi) (h3 : RelO C w S β mx umx) (hmh : (mx.isSome && hi.isNone) = false) (h : slA H k x lo hi mx = some v) :
    ∃ u, (Instr.sliceAt t ux ulo uhi umx).run P w = .ok u w ∧ RelV C w S β v u := by
  have hs : ∀ (a : Option Addr) (len cap l h m' : Nat), (Instr.sliceBounds true len cap ulo uhi umx).run P w = .ok (l, h, m') w →
      (Instr.sliceAt t (.slice a len cap) ulo uhi umx).run P w = .ok (.slice (if m' = l then a else a.map (·.add (l * k.size))) (h - l) (m' - l)) w := by
    intro a len cap l h m' hb
    simp [Instr.sliceAt, run_und hu, Instr.slice, hb, run_sizeK hk]
  unfold slA at h
  split at h
  · rename_i k' es tt
    split at h
    · rename_i hke
      split at h
      · rename_i m hm
        split at h
        · rename_i hh hhh
          split at h
          · rename_i l hl
            cases h
            cases hx with
            | d _ _ hx =>
            cases hx with
            | l _ _ _ a cap blk off c c1 c2 c3 c4 c5 =>
            obtain ⟨m', hb, b1, b2, b3, b4, b5, b6⟩ := run_bounds (P := P) (isS := true) h1 h2 h3 hmh c1 hm hhh hl
            refine ⟨_, hs a es.length cap l hh m' hb, .d _ _ ?_⟩
            have hlen : ((es.take hh).drop l).length = hh - l := by simp; omega
            rw [← hlen]
            have hkk : 0 < ((es.take hh).drop l).length → k' = k := by
              intro h0
              rcases Bool.or_eq_true _ _ ▸ hke with hq | hq
              · exact (K.eq_spec hq).symm
              · simp at hq; subst hq; simp at h0
            refine .l k _ _ _ _ blk (off + l * k.size) (fun j => c (l + j)) (by omega) ?_ ?_ ?_ ?_
            · intro ht
              cases hmx : mx.isSome with
              | true => simp [hmx] at ht; have := b5 hmx; omega
              | false =>
                simp [hmx] at ht
                obtain ⟨b7, b8⟩ := b6 hmx
                have := c2 ht.1
                omega
            · intro h0
              have : ¬ m' = l := by omega
              rw [if_neg this, c3 (by omega)]
              simp [add_at]
            · intro j hj
              have hk' := hkk (by omega)
              subst hk'
              have := c4 (l + j) (by omega)
              have e : off + l * k'.size + j * k'.size = off + (l + j) * k'.size := by rw [Nat.add_mul]; omega
              rw [e]
              exact this
            · intro j hj
              have hk' := hkk (by omega)
              subst hk'
              have := c5 (l + j) (by omega)
              simpa [List.getElem_drop, List.getElem_take] using this
          · cases h
        · cases h
      · cases h
    · cases h
  · rename_i o k' off len tt
    split at h
    · rename_i k'' ro es ho
      split at h
      · rename_i hc
        simp only [Bool.and_eq_true, decide_eq_true_eq] at hc
        obtain ⟨hk1, hle⟩ := hc
        have := K.eq_spec hk1
        subst this
        split at h
        · rename_i m hm
          split at h
          · rename_i hh hhh
            split at h
            · rename_i l hl
              cases h
              cases hx with
              | r _ _ _ _ _ _ h0 hx =>
              unfold RelRf at hx
              split at hx
              · exact hx.elim
              · rename_i hb; rw [hH.dead o hb] at ho; cases ho
              · rename_i hb
                obtain ⟨z1, z2, a, rfl⟩ := hx
                subst z1 z2
                obtain ⟨m', hbb, b1, b2, b3, b4, b5, b6⟩ := run_bounds (P := P) (isS := true) h1 h2 h3 hmh (Nat.le_refl 0) hm hhh hl
                refine ⟨_, hs a 0 0 l hh m' hbb, .r _ _ _ _ _ _ rfl ?_⟩
                unfold RelRf
                rw [hb]
                have e1 : l = 0 := by omega
                have e2 : hh = 0 := by omega
                have e3 : m' = 0 := by omega
                subst e1 e2 e3
                exact ⟨rfl, rfl, a, by simp⟩
              · rename_i blk base k3 hb
                obtain ⟨e1, cap, a, rfl, e2, e3, e4, e', n, e5, e6⟩ := hx
                subst e1
                obtain ⟨m', hbb, b1, b2, b3, b4, b5, b6⟩ := run_bounds (P := P) (isS := true) h1 h2 h3 hmh e3 hm hhh hl
                refine ⟨_, hs (some a) len cap l hh m' hbb, ?_⟩
                have hval : (.slice (if m' = l then some a else (some a).map (·.add (l * k3.size))) (hh - l) (m' - l) : Value) = .slice (some (if m' = l then a else a.add (l * k3.size))) (hh - l) (m' - l) := by
                  split <;> rfl
                rw [hval]
                refine .r _ _ _ _ _ _ rfl ?_
                unfold RelRf
                rw [hb]
                refine ⟨rfl, m' - l, _, rfl, ?_, by omega, ?_, e', n, e5, ?_⟩
                · intro h0
                  have : ¬ m' = l := by omega
                  rw [if_neg this, e2 (by omega), add_at, Nat.add_mul, Nat.add_assoc]
                · intro ht
                  cases hmx : mx.isSome with
                  | true => simp [hmx] at ht; have := b5 hmx; omega
                  | false =>
                    simp [hmx] at ht
                    obtain ⟨b7, b8⟩ := b6 hmx
                    have := e4 ht.1
                    omega
                · refine Nat.le_trans (Nat.add_le_add_left (Nat.mul_le_mul_right _ ?_) _) e6
                  omega
              · exact hx.elim
            · cases h
          · cases h
        · cases h
      · cases h
    · cases h
  · cases h
theorem lenA_rel (hH : HOK C B w S β H) {str : Bool} {x : PV} {u : Value} {n : Nat} (hx : RelV C w S β x u) (h : lenA H str x = some n) :
    (str = false ∧ ∃ a cap, u = .slice a n cap) ∨ (str = true ∧ ∃ s : ByteArray, u = .string s ∧ s.size = n) := by
  unfold lenA at h
  split at h
  · split at h
    · cases h
    · cases h
      cases hx with
      | d _ _ hx =>
      cases hx with
      | l => exact .inl ⟨by cases str <;> simp_all, _, _, rfl⟩
  · rename_i o k off len t
    split at h
    · cases h
    · rename_i hst
      split at h
      · rename_i ho
        split at h
        · cases h
          cases hx with
          | r _ _ _ _ _ _ h0 hx =>
          refine .inl ⟨by simpa using hst, ?_⟩
          unfold RelRf at hx
          split at hx
          · exact hx.elim
          · rename_i hb; rw [hH.dead o hb] at ho; cases ho
          · obtain ⟨-, rfl, a, rfl⟩ := hx; exact ⟨_, _, rfl⟩
          · obtain ⟨-, cap, a, rfl, -⟩ := hx; exact ⟨_, _, rfl⟩
          · exact hx.elim
        · cases h
      · cases h
  · split at h
    · cases h
      cases hx with
      | d _ _ hx =>
      cases hx with
      | s _ x hx => exact .inr ⟨by assumption, x, rfl, by rw [← hx]; simp⟩
    · cases h
  · cases h
theorem binA_rel {op : BinOp} {t : TypeId} {x y : PV} {ux uy : Value} {d : DV} (hx : RelV C w S β x ux) (hy : RelV C w S β y uy) (h : binA op x y = some d) (ox oy : Operand) :
    ∃ u, (eqGuard op t ox oy ux uy).run P w = .ok () w ∧ (binOp op t ux uy).run P w = .ok u w ∧ RelD w S d u := by
  have hg : ∀ (a b : Value), ((∃ k n, a = .int k n) ∨ ∃ s, a = .string s) → (eqGuard op t ox oy a b).run P w = .ok () w := by
    intro a b h1
    rcases h1 with ⟨k, n, rfl⟩ | ⟨s, rfl⟩
    · cases op <;> simp [eqGuard]
    · cases op <;> simp [eqGuard]
  unfold binA at h
  split at h
  · rename_i k a k' b
    cases hx with
    | d _ _ hx =>
    cases hx
    cases hy with
    | d _ _ hy =>
    cases hy
    refine Exists.elim (?_ : ∃ u, (binOp op t (.int k a) (.int k' b)).run P w = .ok u w ∧ RelD w S d u) fun u hu => ⟨u, hg _ _ (.inl ⟨_, _, rfl⟩), hu⟩
    have hshift : ∀ op, (op = .shl ∨ op = .shr) → shiftI op k a b = some d → ∃ u, (binOp op t (.int k a) (.int k' b)).run P w = .ok u w ∧ RelD w S d u := by
      intro op hop h
      unfold shiftI at h
      split at h
      · cases h
      · rename_i hb
        rcases hop with rfl | rfl
        · simp only [Option.some.injEq] at h; subst h; exact ⟨_, by simp [binOp, Op.shift, hb], .i _ _⟩
        · simp only [Option.some.injEq] at h; subst h; exact ⟨_, by simp [binOp, Op.shift, hb], .i _ _⟩
    split at h
    · exact hshift _ (.inl rfl) h
    · exact hshift _ (.inr rfl) h
    · split at h
      · rename_i hk
        subst hk
        unfold binI at h
        split at h <;> first
          | (cases h; refine ⟨_, ?_, .i _ _⟩; simp [binOp, Op.intArith, Op.intBits]; done)
          | (cases h; refine ⟨_, ?_, .b _⟩; simp [binOp, Op.intCmp]; done)
          | (split at h
             · cases h
             · rename_i hz; cases h; refine ⟨_, ?_, .i _ _⟩; simp [binOp, Op.intDiv, hz])
          | cases h
      · cases h
  · rename_i a b
    cases hx with
    | d _ _ hx =>
    cases hx with
    | s _ sa hsa =>
    cases hy with
    | d _ _ hy =>
    cases hy with
    | s _ sb hsb =>
    refine Exists.elim (?_ : ∃ u, (binOp op t (.string sa) (.string sb)).run P w = .ok u w ∧ RelD w S d u) fun u hu => ⟨u, hg _ _ (.inr ⟨_, rfl⟩), hu⟩
    subst hsa hsb
    unfold binS at h
    split at h <;> first
      | (cases h; refine ⟨_, ?_, .b _⟩; simp [binOp, Op.stringOp, ByteArray.toList_eq]; done)
      | skip
    · split at h
      · rename_i hle
        cases h
        refine ⟨.string (sa ++ sb), ?_, .s _ _ (by simp [ByteArray.data_append])⟩
        have : ¬ (((sa.size + sb.size : Nat) : Int) > IntKind.i64.max) := by
          have e1 : sa.size = sa.data.toList.length := by simp
          have e2 : sb.size = sb.data.toList.length := by simp
          have : IntKind.i64.max = 9223372036854775807 := by decide
          rw [this, e1, e2]; omega
        simp only [binOp, Op.stringOp, Sem.run_ite]
        rw [if_neg this]; rfl
      · cases h
    · cases h
  · cases h
theorem unA_rel {op : UnOp} {x : PV} {ux : Value} {d : DV} (hx : RelV C w S β x ux) (h : unA op x = some d) :
    ∃ u, (Op.unary op ux).run P w = .ok u w ∧ RelD w S d u := by
  unfold unA at h
  split at h
  · cases hx with
    | d _ _ hx =>
    cases hx
    split at h
    · cases h; exact ⟨_, by simp [Op.unary, Op.intArith], .i _ _⟩
    · cases h; exact ⟨_, by simp [Op.unary, Op.intBits], .i _ _⟩
    · cases h
  · cases hx with
    | d _ _ hx =>
    cases hx
    split at h
    · cases h; exact ⟨_, by simp [Op.unary], .b _⟩
    · cases h
  · cases h
theorem idxS_rel {t : TypeId} (hu : P.underlying t = some .string) {x i : PV} {ux ui : Value} {s : List UInt8} {n : Int} {b : UInt8} (hx : RelV C w S β x ux) (hi : RelV C w S β i ui)
    (hs : x = .d (.s s)) (hn : asI i = some n) (h0 : 0 ≤ n) (hb : s[n.toNat]? = some b) : (Instr.index t ux ui).run P w = .ok (.int .u8 b.toNat) w := by
  subst hs
  obtain ⟨k, rfl⟩ := asI_rel hi hn
  cases hx with
  | d _ _ hx =>
  cases hx with
  | s _ x hx =>
  subst hx
  have : x[n.toNat]? = some b := by
    obtain ⟨hj, e⟩ := List.getElem?_eq_some_iff.1 hb
    have hj' : n.toNat < x.size := by simpa using hj
    rw [getElem?_pos x n.toNat hj']
    rw [← e]
    simp [ByteArray.getElem_eq_getElem_data]
  simp [Instr.index, asIntOf, run_und hu, h0, this]
theorem slS_rel {t : TypeId} (hu : P.underlying t = some .string) {s : List UInt8} {ux : Value} {lo hi : Option PV} {ulo uhi : Option Value} {h l : Nat}
    (hx : RelV C w S β (.d (.s s)) ux) (h1 : RelO C w S β lo ulo) (h2 : RelO C w S β hi uhi) (hh : bnd s.length s.length hi = some h) (hl : bnd 0 h lo = some l) :
    ∃ u, (Instr.sliceAt t ux ulo uhi none).run P w = .ok u w ∧ RelD w S (.s ((s.take h).drop l)) u := by
  cases hx with
  | d _ _ hx =>
  cases hx with
  | s _ x hx =>
  subst hx
  have hsz : x.size = x.data.toList.length := by simp
  obtain ⟨m', hb, b1, b2, b3, b4, b5, b6⟩ := run_bounds (P := P) (isS := false) (mx := none) (umx := none) (len := x.data.toList.length) (cap := x.data.toList.length) h1 h2 trivial (by simp) (Nat.le_refl _) rfl hh hl
  rw [← hsz] at hb
  refine ⟨.string (x.extract l h), by simp [Instr.sliceAt, run_und hu, Instr.slice, hb], .s _ _ ?_⟩
  rw [ByteArray.data_extract, Array.toList_extract, List.extract_eq_take_drop, List.drop_take]
theorem mm2_rel {mx : Bool} {x y z : PV} {ux uy : Value} (hx : RelV C w S β x ux) (hy : RelV C w S β y uy) (h : mm2 mx x y = some z) :
    ∃ u, ((if mx then Builtin.max2 ux uy else Builtin.min2 ux uy)).run P w = .ok u w ∧ RelV C w S β z u := by
  unfold mm2 at h
  split at h
  · split at h
    · rename_i hk
      subst hk
      cases h
      cases hx with
      | d _ _ hx =>
      cases hx
      cases hy with
      | d _ _ hy =>
      cases hy
      cases mx
      · exact ⟨_, by simp [Builtin.min2], .d _ _ (.i _ _)⟩
      · exact ⟨_, by simp [Builtin.max2], .d _ _ (.i _ _)⟩
    · cases h
  · cases h
theorem eqL_append : ∀ {a b : List Nat} {xs ys : List DV} {e : Bool}, eqL (a ++ b) xs ys = some e → ∃ x1 x2 y1 y2 e1 e2, xs = x1 ++ x2 ∧ ys = y1 ++ y2 ∧ eqL a x1 y1 = some e1 ∧ eqL b x2 y2 = some e2 ∧ e = (e1 && e2)
  | [], b, xs, ys, e, h => ⟨[], xs, [], ys, true, e, rfl, rfl, rfl, h, by simp⟩
  | k :: a, b, [], ys, e, h => by simp [eqL] at h
  | k :: a, b, x :: xs, [], e, h => by simp [eqL] at h
  | k :: a, b, x :: xs, y :: ys, e, h => by
    simp only [List.cons_append, eqL] at h
    split at h
    · rename_i e0 r h1 h2
      obtain ⟨x1, x2, y1, y2, e1, e2, rfl, rfl, q1, q2, q3⟩ := eqL_append h2
      cases h
      exact ⟨x :: x1, x2, y :: y1, y2, e0 && e1, e2, rfl, rfl, by simp [eqL, h1, q1], q2, by rw [q3, Bool.and_assoc]⟩
    · cases h
theorem eqL_length : ∀ {ks : List Nat} {xs ys : List DV} {e : Bool}, eqL ks xs ys = some e → xs.length = ks.length ∧ ys.length = ks.length
  | [], [], [], _, _ => ⟨rfl, rfl⟩
  | [], [], _ :: _, _, h => by simp [eqL] at h
  | [], _ :: _, _, _, h => by simp [eqL] at h
  | _ :: _, [], _, _, h => by simp [eqL] at h
  | _ :: _, _ :: _, [], _, h => by simp [eqL] at h
  | k :: ks, x :: xs, y :: ys, e, h => by
    simp only [eqL] at h
    split at h
    · rename_i h2
      have := eqL_length h2
      simp [this.1, this.2]
    · cases h
theorem eqTile_length {rec : TypeId → Option (List Nat)} (hr : ∀ t ks, rec t = some ks → ks.length = P.cellsOf t) : ∀ {fs : List Field} {off n : Nat} {ks : List Nat}, eqTile P rec fs off n = some ks → off + ks.length = n
  | [], off, n, ks, h => by
    simp only [eqTile] at h
    split at h
    · cases h; simpa using ‹off = n›
    · cases h
  | f :: fs, off, n, ks, h => by
    simp only [eqTile] at h
    split at h
    · cases h
    · obtain ⟨a, ha, h⟩ := Option.bind_eq_some_iff.1 h
      obtain ⟨b, hb, h⟩ := Option.bind_eq_some_iff.1 h
      cases h
      have h1 := hr _ _ ha
      have h2 := eqTile_length hr hb
      simp only [List.length_append]; omega
theorem eqKs_length : ∀ {d : Nat} {t : TypeId} {ks : List Nat}, eqKs P d t = some ks → ks.length = P.cellsOf t
  | 0, t, ks, h => by cases h
  | d + 1, t, ks, h => by
    simp only [eqKs] at h
    split at h
    · split at h
      · cases h; simp [*]
      · cases h
    · split at h
      · cases h; simp [*]
      · cases h
    · split at h
      · cases h; simp [*]
      · cases h
    · split at h
      · cases h
      · have := eqTile_length (rec := eqKs P d) (fun t ks h => eqKs_length h) h; omega
    · cases h
theorem eqKs_kq {d : Nat} {t : TypeId} {ks : List Nat} (h : eqKs P d t = some ks) : ∃ k, kq P t = some k := by
  cases d with
  | zero => cases h
  | succ d =>
    simp only [eqKs] at h
    split at h
    · rename_i hu
      split at h
      · rename_i hc; exact ⟨none, by simp [kq, hu, hc]⟩
      · cases h
    · rename_i hu
      split at h
      · rename_i hc; exact ⟨none, by simp [kq, hu, hc]⟩
      · cases h
    · rename_i hu
      split at h
      · rename_i hc; exact ⟨none, by simp [kq, hu, hc]⟩
      · cases h
    · rename_i hu
      exact ⟨some (P.cellsOf t), by simp only [kq, hu]⟩
    · cases h
theorem eqFields_sound {d m n : Nat} (ih : ∀ (t : TypeId) (ks : List Nat), eqKs P d t = some ks → ∀ (k : K), kq P t = some k → ∀ (c c' : Nat → Value) (xs ys : List DV) (e : Bool), eqL ks xs ys = some e → (∀ j (h : j < xs.length), RelD w S xs[j] (c j)) → (∀ j (h : j < ys.length), RelD w S ys[j] (c' j)) →
      (Op.equalIn m t (mkV k c) (mkV k c')).run P w = .ok e w) (c c' : Nat → Value) : ∀ (fs : List Field) (off : Nat) (ks : List Nat), eqTile P (eqKs P d) fs off n = some ks → ∀ (xs ys : List DV) (e : Bool), eqL ks xs ys = some e → (∀ j (h : j < xs.length), RelD w S xs[j] (c (off + j))) → (∀ j (h : j < ys.length), RelD w S ys[j] (c' (off + j))) →
    (Op.eqFields m ((List.range n).map c).toArray ((List.range n).map c').toArray fs).run P w = .ok e w
  | [], off, ks, ht, xs, ys, e, he, hx, hy => by
    simp only [eqTile] at ht
    split at ht
    · cases ht
      cases xs with
      | nil =>
        cases ys with
        | nil => simp only [eqL, Option.some.injEq] at he; subst he; simp [Op.eqFields]
        | cons _ _ => simp [eqL] at he
      | cons _ _ => simp [eqL] at he
    · cases ht
  | f :: fs, off, ks, ht, xs, ys, e, he, hx, hy => by
    have hall := eqTile_length (rec := eqKs P d) (fun t ks h => eqKs_length h) ht
    simp only [eqTile] at ht
    split at ht
    · cases ht
    · rename_i hn
      obtain ⟨a, ha, ht⟩ := Option.bind_eq_some_iff.1 ht
      obtain ⟨b, hb, ht⟩ := Option.bind_eq_some_iff.1 ht
      cases ht
      have hn1 : f.name ≠ "_" := fun h => hn (.inl h)
      have hn2 : f.offset = off := Classical.byContradiction fun h => hn (.inr h)
      obtain ⟨x1, x2, y1, y2, e1, e2, rfl, rfl, q1, q2, rfl⟩ := eqL_append he
      obtain ⟨k, hk⟩ := eqKs_kq ha
      have hal := eqKs_length ha
      have hks := kq_size hk
      have hlx := eqL_length q1
      have hle : f.offset + k.size ≤ n := by
        simp only [List.length_append] at hall; omega
      simp only [List.length_append] at hall
      simp only [Op.eqFields, hn1, ne_eq, not_false_eq_true, if_true, Sem.run_bind, run_part hk (vs := (List.range n).map c) (by simpa using hle), run_part hk (vs := (List.range n).map c') (by simpa using hle), Result.andThen_ok]
      have hg : ∀ (c : Nat → Value) j, j < a.length → ((List.range n).map c).getD (f.offset + j) undef = c (off + j) := by
        intro c j hj
        rw [List.getD, List.getElem?_map, List.getElem?_range (by omega), hn2]; rfl
      have h1 := ih f.type a ha k hk (fun m => ((List.range n).map c).getD (f.offset + m) undef) (fun m => ((List.range n).map c').getD (f.offset + m) undef) x1 y1 e1 q1 (fun j hj => by
        rw [hg c j (by omega)]
        have := hx j (by simp; omega)
        rwa [List.getElem_append_left hj] at this) (fun j hj => by
        rw [hg c' j (by omega)]
        have := hy j (by simp; omega)
        rwa [List.getElem_append_left hj] at this)
      rw [h1]
      simp only [Result.andThen_ok]
      cases e1 with
      | false => simp
      | true =>
        simp only [Bool.not_true, Bool.false_eq_true, if_false, Bool.true_and]
        refine eqFields_sound ih c c' fs _ b hb x2 y2 e2 q2 ?_ ?_
        · intro j hj
          have := hx (x1.length + j) (by simp; omega)
          rw [List.getElem_append_right (by omega)] at this
          have e3 : off + P.cellsOf f.type + j = off + (x1.length + j) := by omega
          rw [e3]
          simpa using this
        · intro j hj
          have := hy (y1.length + j) (by simp; omega)
          rw [List.getElem_append_right (by omega)] at this
          have e3 : off + P.cellsOf f.type + j = off + (y1.length + j) := by omega
          rw [e3]
          simpa using this
theorem eq_sound : ∀ (d m : Nat), d ≤ m → ∀ (t : TypeId) (ks : List Nat), eqKs P d t = some ks → ∀ (k : K), kq P t = some k → ∀ (c c' : Nat → Value) (xs ys : List DV) (e : Bool), eqL ks xs ys = some e → (∀ j (h : j < xs.length), RelD w S xs[j] (c j)) → (∀ j (h : j < ys.length), RelD w S ys[j] (c' j)) →
      (Op.equalIn m t (mkV k c) (mkV k c')).run P w = .ok e w
  | 0, m, _, t, ks, h => by cases h
  | d + 1, 0, hm, _, _, _ => absurd hm (Nat.not_succ_le_zero _)
  | d + 1, m + 1, hm, t, ks, h => by
    intro k hk c c' xs ys e he hx hy
    have hall := eqKs_length h
    have hleaf : ∀ n, ks = [n] → ∃ x y, xs = [x] ∧ ys = [y] ∧ eqK n x y = some e := by
      rintro n rfl
      obtain ⟨l1, l2⟩ := eqL_length he
      match xs, ys, l1, l2 with
      | [x], [y], _, _ =>
        refine ⟨x, y, rfl, rfl, ?_⟩
        simp only [eqL] at he
        split at he
        · rename_i e0 r h1 h2
          cases h2
          simp only [Bool.and_true] at he
          rw [← he]; exact h1
        · cases he
    simp only [eqKs] at h
    split at h
    · rename_i hu
      split at h
      · rename_i hc
        cases h
        obtain ⟨x, y, rfl, rfl, hxy⟩ := hleaf _ rfl
        have hkn : k = none := by simp [kq, hu, hc] at hk; exact hk.symm
        subst hkn
        have h1 := hx 0 (by simp)
        have h2 := hy 0 (by simp)
        simp only [List.getElem_cons_zero] at h1 h2
        simp only [mkV]
        unfold eqK at hxy
        split at hxy
        · rename_i h0; cases h0
        · generalize c 0 = u at *
          generalize c' 0 = u' at *
          cases h1; cases h2
          simp only [Option.some.injEq] at hxy; subst hxy
          exact run_equalIn_bool' w _ _ _ _ hu
        · rename_i h0; cases h0
        · cases hxy
      · cases h
    · rename_i hu
      split at h
      · rename_i hc
        cases h
        obtain ⟨x, y, rfl, rfl, hxy⟩ := hleaf _ rfl
        have hkn : k = none := by simp [kq, hu, hc] at hk; exact hk.symm
        subst hkn
        have h1 := hx 0 (by simp)
        have h2 := hy 0 (by simp)
        simp only [List.getElem_cons_zero] at h1 h2
        simp only [mkV]
        unfold eqK at hxy
        split at hxy
        · generalize c 0 = u at *
          generalize c' 0 = u' at *
          cases h1; cases h2
          split at hxy
          · rename_i hkk
            subst hkk
            simp only [Option.some.injEq] at hxy; subst hxy
            exact run_equalIn_int w _ _ _ _ _ _ hu
          · cases hxy
        · rename_i h0; cases h0
        · rename_i h0; cases h0
        · cases hxy
      · cases h
    · rename_i hu
      split at h
      · rename_i hc
        cases h
        obtain ⟨x, y, rfl, rfl, hxy⟩ := hleaf _ rfl
        have hkn : k = none := by simp [kq, hu, hc] at hk; exact hk.symm
        subst hkn
        have h1 := hx 0 (by simp)
        have h2 := hy 0 (by simp)
        simp only [List.getElem_cons_zero] at h1 h2
        simp only [mkV]
        unfold eqK at hxy
        split at hxy
        · rename_i h0; cases h0
        · rename_i h0; cases h0
        · generalize c 0 = u at *
          generalize c' 0 = u' at *
          cases h1 with
          | s _ b hb =>
          cases h2 with
          | s _ b' hb' =>
          simp only [Option.some.injEq] at hxy; subst hxy
          rw [run_equalIn_string w _ _ _ _ hu, ByteArray.toList_eq, ByteArray.toList_eq, hb, hb']
        · cases hxy
      · cases h
    · rename_i fs hu
      split at h
      · cases h
      · rename_i hst
        have hst' : P.stoodInHeld t = false := by simpa using hst
        have hfo : P.fieldsOf t = fs := by simp [Program.fieldsOf, hu]
        have hkn : k = some (P.cellsOf t) := by simp [kq, hu] at hk; exact hk.symm
        subst hkn
        simp only [mkV]
        rw [run_equalIn_agg w m t _ _ (by rw [hfo]; exact hu) hst', hfo]
        refine eqFields_sound (d := d) (fun t ks h => eq_sound d m (by omega) t ks h) c c' fs.toList 0 ks h xs ys e he ?_ ?_
        · intro j hj; rw [Nat.zero_add]; exact hx j hj
        · intro j hj; rw [Nat.zero_add]; exact hy j hj
    · cases h
theorem eqA_rel {t : TypeId} {fs : Array Field} (hu : P.underlying t = some (.struct fs)) {ks : List Nat} (hks : eqKs P 8 t = some ks) (hm : P.eqGuardType P.depth t = false) {x y : PV} {ux uy : Value} (hx : RelV C w S β x ux) (hy : RelV C w S β y uy) {e : Bool} (h : eqA ks x y = some e) (ox oy : Operand) (op : BinOp) (hop : op = .eql ∨ op = .neq) :
    (eqGuard op t ox oy ux uy).run P w = .ok () w ∧ (binOp op t ux uy).run P w = .ok (.bool (if op == .neq then !e else e)) w := by
  unfold eqA at h
  split at h
  · rename_i xs ys
    cases hx with
    | d _ _ hx =>
    cases hy with
    | d _ _ hy =>
    cases hx with
    | a _ vs l1 _ r1 =>
    cases hy with
    | a _ us l2 _ r2 =>
    obtain ⟨g1, g2⟩ := eqL_length h
    have hall := eqKs_length hks
    have hk : kq P t = some (some (P.cellsOf t)) := by simp [kq, hu]
    have hmk : ∀ (vs : List Value), vs.length = P.cellsOf t → mkV (some (P.cellsOf t)) (fun j => vs.getD j undef) = .agg vs.toArray := by
      intro vs hv
      simp only [mkV]
      congr 2
      apply List.ext_getElem
      · simp [hv]
      · intro j h1 h2
        simp [List.getD, List.getElem?_eq_getElem h2]
    have heq := eq_sound (P := P) (w := w) (S := S) 8 10000 (by omega) t ks hks _ hk (fun j => vs.getD j undef) (fun j => us.getD j undef) xs ys e h (fun j hj => by
      simp only [List.getD, List.getElem?_eq_getElem (show j < vs.length by omega), Option.getD_some]; exact r1 j hj (by omega)) (fun j hj => by
      simp only [List.getD, List.getElem?_eq_getElem (show j < us.length by omega), Option.getD_some]; exact r2 j hj (by omega))
    rw [hmk vs (by omega), hmk us (by omega)] at heq
    refine ⟨run_eqGuard_agg w op t ox oy _ _ hm, ?_⟩
    rcases hop with rfl | rfl
    · rw [run_eql_struct, heq]; rfl
    · rw [run_neq_struct, heq]; rfl
  · cases h
end
end Go.Sim
end
section
open Go.RowKit
namespace Go.Sim
section
variable {P : Program} {N : Names} {C : Cx} {w : World} {S : Stab} {β : Pl} {B : Nat} {H : Heap}
theorem obj_put_same {H : Heap} {o : Nat} {x : Option Obj} (h : o < H.length) : (H.put o x).obj o = x := by
 simp [Heap.obj, Heap.put, h]
theorem obj_put_ne {H : Heap} {o o' : Nat} {x : Option Obj} (h : o ≠ o') : (H.put o x).obj o' = H.obj o' := by
 simp [Heap.obj, Heap.put, h]
theorem obj_lt {H : Heap} {o : Nat} {x : Obj} (h : H.obj o = some x) : o < H.length := by
 unfold Heap.obj at h
 split at h
 ·rename_i hx; exact (List.getElem?_eq_some_iff.1 hx).1
 ·cases h
theorem put_length (H : Heap) (o : Nat) (x : Option Obj) : (H.put o x).length = H.length := by simp [Heap.put]
theorem frz1_length (H : Heap) (o : Nat) : (frz1 H o).length = H.length := by
 unfold frz1; split <;> simp [put_length]
theorem frz1_same {H : Heap} {o : Nat} {k : K} {ro : Nat} {es : List DV} (h : H.obj o = some (.sl k ro es)) : (frz1 H o).obj o = some (.sl k (max es.length ro) es) := by
 unfold frz1; rw [h]; exact obj_put_same (obj_lt h)
theorem frz1_no {H : Heap} {o : Nat} (h : ∀ k ro es, H.obj o ≠ some (.sl k ro es)) : frz1 H o = H := by
 unfold frz1; split
 ·exact absurd ‹_› (h _ _ _)
 ·rfl
theorem frz1_ne {H : Heap} {o p : Nat} (h : o ≠ p) : (frz1 H p).obj o = H.obj o := by
 unfold frz1; split
 ·exact obj_put_ne (fun e => h e.symm)
 ·rfl
theorem frz_length : ∀ (os : List Nat) (H : Heap), (frz H os).length = H.length
 | [], _ => rfl
 | o :: r, H => by
  unfold frz
  rw [frz_length r, frz1_length]
def frzO (os : List Nat) (o : Nat) : Option Obj → Option Obj
 | some (.sl k ro es) => some (.sl k (if o ∈ os then max es.length ro else ro) es)
 | x => x
theorem frz_obj : ∀ (os : List Nat) (H : Heap) (o : Nat), (frz H os).obj o = frzO os o (H.obj o)
 | [], H, o => by
  unfold frz frzO
  split
  ·rename_i h; rw [h]; simp
  ·rfl
 | p :: r, H, o => by
  unfold frz
  rw [frz_obj r]
  by_cases hp : o = p
  ·subst hp
   cases ho : H.obj o with
   | none => rw [frz1_no (by rw [ho]; simp), ho]; rfl
   | some x =>
    cases x with
    | sl k ro es =>
     rw [frz1_same ho]
     simp only [frzO, List.mem_cons, true_or, if_true]
     congr 2
     split <;> omega
    | _ => rw [frz1_no (by rw [ho]; simp), ho]; rfl
  ·rw [frz1_ne hp]
   unfold frzO
   split
   ·simp [hp]
   ·rfl
def FSq (β : Pl) (H : Heap) (os : List Nat) (S : Stab) : Stab := fun b j => S b j ∨ ∃ o, o ∈ os ∧ ∃ base k ro es, β o = .at b base k ∧ H.obj o = some (.sl k ro es) ∧ base ≤ j ∧ j < base + es.length * k.size
theorem FSq.mono {os os' : List Nat} (h : ∀ o, o ∈ os → o ∈ os') (b j : Nat) (hs : FSq β H os S b j) : FSq β H os' S b j :=
 hs.elim .inl fun ⟨o, ho, r⟩ => .inr ⟨o, h o ho, r⟩
theorem freeze_ext (hH : HOK C B w S β H) (os : List Nat) : Ext B w S w (FSq β H os S) := by
 refine ⟨Below.refl _ _, fun b j h => .inl h, fun _ _ _ => rfl, ?_, fun _ _ _ h => h⟩
 rintro b j (h | ⟨o, -, base, k, ro, es, h1, -⟩)
 ·exact .inl h
 ·exact .inr (hH.live o b base k h1).1
theorem freeze_swf (hH : HOK C B w S β H) (hS : Swf w S) (os : List Nat) : Swf w (FSq β H os S) := by
 rintro b j (h | ⟨o, -, base, k, ro, es, h1, h2, h3, h4⟩)
 ·exact hS b j h
 ·obtain ⟨-, x, cells, e, ho, hs, hw, hc⟩ := hH.live o b base k h1
  rw [h2] at ho
  cases ho
  obtain ⟨-, c, hf, -, -⟩ := hc
  have hk : 0 < k.size := by
   rcases Nat.eq_zero_or_pos k.size with h0 | h0
   ·rw [h0] at h4; omega
   ·exact h0
  have hj : (j - base) / k.size < es.length := by
   rw [Nat.div_lt_iff_lt_mul hk]; omega
  have hm := Nat.mod_lt (j - base) hk
  have e1 := Nat.div_add_mod (j - base) k.size
  have := (hf _ hj _ hm).1
  have e2 : base + (j - base) / k.size * k.size + (j - base) % k.size = j := by
   rw [Nat.mul_comm] at e1; omega
  rw [e2] at this
  exact ⟨_, cell_of_heap hw this⟩
theorem freeze_hok (hH : HOK C B w S β H) (os : List Nat) : HOK C B w (FSq β H os S) β (frz H os) := by
 have hx := freeze_ext hH os
 refine ⟨?_, ?_, ?_, hH.inj, ?_, ?_, hH.spi⟩
 ·intro o blk base k hb
  obtain ⟨h1, x, cells, e, ho, hs, hw, hc⟩ := hH.live o blk base k hb
  cases x with
  | box kb v =>
   refine ⟨h1, .box kb v, cells, e, by rw [frz_obj, ho]; rfl, hs, hw, ?_⟩
   obtain ⟨hle, f, hf, hr, hn⟩ := hc
   refine ⟨hle, f, hf, hr.ext hx (Later.refl _), ?_⟩
   rintro j (h | ⟨o', -, base', k', ro', es', h2, h3, -⟩)
   ·exact hn j h
   ·have := hH.inj o o' blk base k base' k' hb h2
    subst this
    rw [ho] at h3; cases h3
  | sl kb ro es =>
   refine ⟨h1, .sl kb (if o ∈ os then max es.length ro else ro) es, cells, e, by rw [frz_obj, ho]; rfl, hs, hw, ?_⟩
   obtain ⟨hle, c, hf, hr, hn⟩ := hc
   refine ⟨hle, c, hf, fun j hj => (hr j hj).ext hx, ?_⟩
   simp only [Obj.shape] at hs
   subst hs
   rintro j hj (h | ⟨o', h5, base', k', ro', es', h2, h3, h4, h6⟩)
   ·refine hn j (Nat.le_trans (Nat.add_le_add_left (Nat.mul_le_mul_right _ ?_) _) hj) h
    split <;> omega
   ·have := hH.inj o o' blk base kb base' k' hb h2
    subst this
    rw [ho] at h3; cases h3
    rw [hb] at h2; cases h2
    rw [if_pos h5] at hj
    have := Nat.mul_le_mul_right kb.size (Nat.le_max_left es.length ro)
    omega
  | _ => exact hc.elim
 ·intro o ho
  rw [frz_obj, hH.dead o ho]; rfl
 ·intro o ho
  obtain ⟨k, ro, h⟩ := hH.virt o ho
  exact ⟨k, _, by rw [frz_obj, h]; rfl⟩
 ·intro o ho
  rw [frz_length] at ho
  exact hH.out o ho
 ·intro o blk x h
  obtain ⟨h1, y, h2, h3⟩ := hH.sp o blk x h
  refine ⟨h1, y, ?_, h3.ext hx rfl⟩
  rw [frz_obj, h2]
  unfold SpOK at h3
  split at h3 <;> first | rfl | exact h3.elim
theorem purC_rel (hH : HOK C B w S β H) {v : PV} {x : DV} {os : List Nat} {u : Value} (hv : RelV C w S β v u) (h : purC H v = some (x, os)) : RelD w (FSq β H os S) x u := by
 unfold purC at h
 split at h
 ·cases h
  cases hv with
  | d _ _ hv => exact hv.more (fun _ _ h => .inl h)
 ·rename_i o k off len t
  split at h
  ·rename_i k' ro es ho
   split at h
   ·rename_i hc
    obtain ⟨rfl, hle⟩ := hc
    cases h
    cases hv with
    | r _ _ _ _ _ _ h0 hx =>
    unfold RelRf at hx
    have hlen : ((es.drop off).take len).length = len := by simp; omega
    split at hx
    ·exact hx.elim
    ·rename_i hb; rw [hH.dead o hb] at ho; cases ho
    ·obtain ⟨rfl, rfl, a, rfl⟩ := hx
     have := RelD.l (w := w) (S := FSq β H [o] S) k' [] false a 0 0 0 (fun _ _ => undef) (Nat.le_refl _) (fun h => by cases h) (fun h => absurd h (Nat.lt_irrefl _)) (fun _ hj => absurd hj (Nat.not_lt_zero _)) (fun _ hj => absurd hj (Nat.not_lt_zero _))
     simpa using this
    ·rename_i blk base k3 hb
     obtain ⟨e1, cap, a, rfl, e2, e3, e4, e', n, e5, e6⟩ := hx
     subst e1
     obtain ⟨-, x, cells, e0, ho', hs, hw, hc⟩ := hH.live o blk base k3 hb
     rw [ho] at ho'
     cases ho'
     obtain ⟨-, c, hf, hr, -⟩ := hc
     have hfin : RelD w (FSq β H [o] S) (.l k3 ((es.drop off).take len) false) (.slice (some a) ((es.drop off).take len).length cap) := by
      refine .l _ _ _ _ _ blk (base + off * k3.size) (fun j => c (off + j)) (by omega) (fun h => by cases h) ?_ ?_ ?_
      ·intro h; rw [e2 (by omega)]
      ·intro j hj m hm
       have hj' : off + j < es.length := by omega
       have e7 : base + off * k3.size + j * k3.size + m = base + (off + j) * k3.size + m := by rw [Nat.add_mul]; omega
       refine ⟨?_, .inr ⟨o, by simp, base, k3, ro, es, hb, ho, by omega, ?_⟩, (hf _ hj' m hm).2⟩
       ·rw [e7]; exact cell_of_heap hw (hf _ hj' m hm).1
       ·rw [e7]
        have : (off + j + 1) * k3.size ≤ es.length * k3.size := Nat.mul_le_mul_right _ hj'
        rw [Nat.add_mul, Nat.one_mul] at this
        omega
      ·intro j hj
       have hj' : off + j < es.length := by omega
       have := (hr _ hj').more (S' := FSq β H [o] S) (fun _ _ h => .inl h)
       simpa [List.getElem_drop, List.getElem_take] using this
     rw [hlen] at hfin
     exact hfin
    ·exact hx.elim
   ·cases h
  ·cases h
 ·cases h
theorem RelD.mono {S S' : Stab} (e : ∀ b o, S b o → S' b o) {x : DV} {v : Value} (h : RelD w S x v) : RelD w S' x v := h.more e
theorem purL_rel (hH : HOK C B w S β H) : ∀ {vs : List PV} {xs : List DV} {os : List Nat}, purL H vs = some (xs, os) → xs.length = vs.length ∧
  ∀ (us : List Value), (∀ j (h : j < vs.length) (h' : j < us.length), RelV C w S β vs[j] us[j]) → ∀ j (h : j < xs.length) (h' : j < us.length), RelD w (FSq β H os S) xs[j] us[j]
 | [], xs, os, h => by cases h; exact ⟨rfl, fun us _ j h => absurd h (Nat.not_lt_zero _)⟩
 | v :: r, xs, os, h => by
  unfold purL at h
  split at h
  ·rename_i x os1 xs1 ps h1 h2
   cases h
   obtain ⟨e1, e2⟩ := purL_rel hH h2
   refine ⟨by simp [e1], ?_⟩
   intro us hus j hj hj'
   cases us with
   | nil => exact absurd hj' (Nat.not_lt_zero _)
   | cons u us =>
    cases j with
    | zero => exact (purC_rel hH (hus 0 (by simp) (by simp)) h1).more (FSq.mono (by simp; intro o h; exact .inl h))
    | succ j =>
     have := e2 us (fun i hi hi' => by have := hus (i + 1) (by simpa using hi) (by simpa using hi'); simpa using this) j (by simpa using hj) (by simpa using hj')
     exact this.more (FSq.mono (by simp; intro o h; exact .inr h))
  ·cases h
theorem pur_rel (hH : HOK C B w S β H) {v : PV} {x : DV} {os : List Nat} {u : Value} (hv : RelV C w S β v u) (h : pur H v = some (x, os)) : RelD w (FSq β H os S) x u := by
 unfold pur at h
 split at h
 ·split at h
  ·rename_i xs os1 h1
   cases h
   cases hv with
   | a _ vs e1 e2 e3 =>
   obtain ⟨h2, h3⟩ := purL_rel hH h1
   exact .a xs vs (by omega) e2 (h3 vs e3)
  ·cases h
 ·exact purC_rel hH hv h
theorem purs_rel (hH : HOK C B w S β H) : ∀ {vs : List PV} {xs : List DV} {os : List Nat}, purs H vs = some (xs, os) → xs.length = vs.length ∧
  ∀ (us : List Value), (∀ j (h : j < vs.length) (h' : j < us.length), RelV C w S β vs[j] us[j]) → ∀ j (h : j < xs.length) (h' : j < us.length), RelD w (FSq β H os S) xs[j] us[j]
 | [], xs, os, h => by cases h; exact ⟨rfl, fun us _ j h => absurd h (Nat.not_lt_zero _)⟩
 | v :: r, xs, os, h => by
  unfold purs at h
  split at h
  ·rename_i x os1 xs1 ps h1 h2
   cases h
   obtain ⟨e1, e2⟩ := purs_rel hH h2
   refine ⟨by simp [e1], ?_⟩
   intro us hus j hj hj'
   cases us with
   | nil => exact absurd hj' (Nat.not_lt_zero _)
   | cons u us =>
    cases j with
    | zero => exact (pur_rel hH (hus 0 (by simp) (by simp)) h1).more (FSq.mono (by simp; intro o h; exact .inl h))
    | succ j =>
     have := e2 us (fun i hi hi' => by have := hus (i + 1) (by simpa using hi) (by simpa using hi'); simpa using this) j (by simpa using hj) (by simpa using hj')
     exact this.more (FSq.mono (by simp; intro o h; exact .inr h))
  ·cases h
end
end Go.Sim
end
section
open Go.RowKit
namespace Go.Sim
section
variable {P : Program} {N : Names} {C : Cx} {w : World} {S : Stab} {β : Pl} {B : Nat} {H : Heap}
theorem OCells.ext {w' : World} {S' : Stab} {β' : Pl} (e : Ext B w S w' S') (hb : Later β β') {cells : Array Value} {blk base : Nat} (hn : ∀ j, S' blk j → S blk j) {x : Obj} (h : OCells C w S β cells blk base x) : OCells C w' S' β' cells blk base x := by
 cases x with
 | box k v =>
  obtain ⟨h0, f, h1, h2, h3⟩ := h
  exact ⟨h0, f, h1, h2.ext e hb, fun j hj => h3 j (hn j hj)⟩
 | sl k ro es =>
  obtain ⟨h0, c, h1, h2, h3⟩ := h
  exact ⟨h0, c, h1, fun j hj => (h2 j hj).ext e, fun j hj hs => h3 j hj (hn j hs)⟩
 | _ => exact h.elim
theorem HOK.splt (hH : HOK C B w S β H) {o blk : Nat} {x : Sp} (h : β o = .sp blk x) : blk < w.heap.size := by
 obtain ⟨-, y, -, h4⟩ := hH.sp o blk x h
 have key : ∀ z, w.heap[blk]? = some z → blk < w.heap.size := fun z hz => (Array.getElem?_eq_some_iff.1 hz).1
 unfold SpOK at h4
 split at h4
 ·obtain ⟨ms, clock, h1, -⟩ := h4; exact key _ h1
 ·obtain ⟨s, -, h1⟩ := h4; exact key _ h1
 ·exact key _ h4
 ·exact key _ h4
 ·exact h4.elim
theorem spf (hH : HOK C B w S β H) {w' : World} {S' : Stab} {β' : Pl} {H' : Heap} {B' : Nat} (e : Ext B' w S w' S') (h1 : ∀ o blk x, β' o = .sp blk x → β o = .sp blk x) (h2 : ∀ o blk x, β' o = .sp blk x → H'.obj o = H.obj o)
  (h3 : ∀ o blk x, β o = .sp blk x → w'.heap[blk]? = w.heap[blk]?) :
  (∀ o blk x, β' o = .sp blk x → B ≤ blk ∧ ∃ y, H'.obj o = some y ∧ SpOK w' S' blk x y) ∧ (∀ o o' blk x x', β' o = .sp blk x → β' o' = .sp blk x' → o = o') := by
 refine ⟨fun o blk x h => ?_, fun o o' blk x x' h h' => hH.spi o o' blk x x' (h1 _ _ _ h) (h1 _ _ _ h')⟩
 obtain ⟨g1, y, g2, g3⟩ := hH.sp o blk x (h1 _ _ _ h)
 exact ⟨g1, y, (h2 _ _ _ h).trans g2, g3.ext e (h3 _ _ _ (h1 _ _ _ h))⟩
theorem Swf.ext {w' : World} (hS : Swf w S) (e : Ext B w S w' S) : Swf w' S := fun b j h => by
 obtain ⟨v, hv⟩ := hS b j h
 exact ⟨v, (e.cell b j h).trans hv⟩
theorem write_ext {blk : Nat} {cells cells' : Array Value} {e : TypeId} (hB : B ≤ blk) (hw : w.heap[blk]? = some (.cells cells e (0, 0))) (hsz : cells'.size = cells.size)
  (hS : ∀ j, S blk j → cells'[j]? = cells[j]?) : Ext B w S (w.setRow blk cells') S := by
 have hw' := setRow_heap w blk cells cells' e (0, 0) hw
 refine ⟨⟨rfl, rfl, rfl, by simp, fun k hk => setRow_other w blk k cells' (by omega)⟩, fun _ _ h => h, ?_, fun _ _ h => .inl h, ?_⟩
 ·intro b j hs
  by_cases hb : b = blk
  ·subst hb
   simp only [World.cell?, hw, hw']
   simpa using hS j hs
  ·simp only [World.cell?, setRow_other w blk b cells' hb]
 ·intro b e' n h
  by_cases hb : b = blk
  ·subst hb
   simp only [World.shape?, hw, hw', hsz] at h ⊢
   exact h
  ·simp only [World.shape?, setRow_other w blk b cells' hb] at h ⊢
   exact h
theorem write_hok (hH : HOK C B w S β H) {o blk base : Nat} {k : K} (hb : β o = .at blk base k) {cells cells' : Array Value} {e : TypeId} (hw : w.heap[blk]? = some (.cells cells e (0, 0))) (hsz : cells'.size = cells.size)
  (hS : ∀ j, S blk j → cells'[j]? = cells[j]?) {x : Obj} (hx : x.shape = k) (hc : OCells C (w.setRow blk cells') S β cells' blk base x) : HOK C B (w.setRow blk cells') S β (H.put o (some x)) := by
 have hB := (hH.live o blk base k hb).1
 have hext := write_ext (S := S) hB hw hsz hS
 have hlt : o < H.length := by
  obtain ⟨-, x0, -, -, ho, -⟩ := hH.live o blk base k hb
  exact obj_lt ho
 have hsp := spf hH (β' := β) (H' := H.put o (some x)) hext (fun _ _ _ h => h) (fun o' _ _ h => obj_put_ne (fun h' => by subst h'; rw [hb] at h; cases h)) (fun o' blk' _ h => setRow_other w blk blk' cells' (hH.spne h hw))
 refine ⟨?_, ?_, ?_, hH.inj, ?_, hsp.1, hsp.2⟩
 ·intro o' blk' base' k' hb'
  by_cases ho : o = o'
  ·subst ho
   rw [hb] at hb'; cases hb'
   exact ⟨hB, x, cells', e, obj_put_same hlt, hx, setRow_heap w blk cells cells' e (0, 0) hw, hc⟩
  ·have hne : blk' ≠ blk := fun h => ho (hH.inj o o' blk base k base' k' hb (h ▸ hb'))
   obtain ⟨h1, x0, c0, e0, h2, h3, h4, h5⟩ := hH.live o' blk' base' k' hb'
   exact ⟨h1, x0, c0, e0, by rw [obj_put_ne ho]; exact h2, h3, by rw [setRow_other w blk blk' cells' hne]; exact h4, h5.ext hext (Later.refl _) (fun _ h => h)⟩
 ·intro o' ho'
  have : o ≠ o' := fun h => by subst h; rw [hb] at ho'; cases ho'
  rw [obj_put_ne this]; exact hH.dead o' ho'
 ·intro o' ho'
  have : o ≠ o' := fun h => by subst h; rw [hb] at ho'; cases ho'
  rw [obj_put_ne this]; exact hH.virt o' ho'
 ·intro o' ho'
  rw [put_length] at ho'
  exact hH.out o' ho'
def upd (β : Pl) (o : Nat) (x : BO) : Pl := fun p => if p = o then x else β p
theorem upd_same (β : Pl) (o : Nat) (x : BO) : upd β o x o = x := by simp [upd]
theorem upd_ne {β : Pl} {o p : Nat} {x : BO} (h : p ≠ o) : upd β o x p = β p := by simp [upd, h]
theorem later_upd {β : Pl} {o : Nat} {x : BO} (h : β o = .pend) : Later β (upd β o x) := fun p => by
 by_cases hp : p = o
 ·subst hp; exact .inr (.inr h)
 ·exact .inl (upd_ne hp)
theorem Swf.lt (hS : Swf w S) {b j : Nat} (h : S b j) : b < w.heap.size := by
 obtain ⟨v, hv⟩ := hS b j h
 exact World.block_lt_of_cell? w _ hv
theorem alloc_ext (hS : Swf w S) (hB : B ≤ w.heap.size) (o : Go.Obj) : Ext B w S (w.alloc o) S := by
 refine ⟨(Below.refl _ _).alloc hB o, fun _ _ h => h, ?_, fun _ _ h => .inl h, ?_⟩
 ·intro b j h
  have hlt := hS.lt h
  simp only [World.cell?, Below.heap_alloc w o b hlt]
 ·intro b e n h
  have hlt : b < w.heap.size := by
   unfold World.shape? at h
   split at h
   ·rename_i hx; exact (Array.getElem?_eq_some_iff.1 hx).1
   ·cases h
  unfold World.shape? at *
  rw [Below.heap_alloc w o b hlt]
  exact h
theorem drew_ext : Ext B w S w.drew S :=
 ⟨(Below.refl _ _).drew, fun _ _ h => h, fun _ _ _ => rfl, fun _ _ h => .inl h, fun _ _ _ h => h⟩
theorem HOK.ext (hH : HOK C B w S β H) {w' : World} {S' : Stab} (e : Ext B w S w' S') (hb : ∀ o blk base k, β o = .at blk base k → w'.heap[blk]? = w.heap[blk]?)
  (hn : ∀ o blk base k, β o = .at blk base k → ∀ j, S' blk j → S blk j) (hsp : ∀ o blk x, β o = .sp blk x → w'.heap[blk]? = w.heap[blk]?) : HOK C B w' S' β H := by
 have hs := spf hH (β' := β) (H' := H) e (fun _ _ _ h => h) (fun _ _ _ _ => rfl) hsp
 refine ⟨?_, hH.dead, hH.virt, hH.inj, hH.out, hs.1, hs.2⟩
 intro o blk base k ho
 obtain ⟨h1, x, cells, t, h2, h3, h4, h5⟩ := hH.live o blk base k ho
 exact ⟨h1, x, cells, t, h2, h3, by rw [hb o blk base k ho]; exact h4, h5.ext e (Later.refl _) (hn o blk base k ho)⟩
theorem HOK.lt (hH : HOK C B w S β H) {o blk base : Nat} {k : K} (h : β o = .at blk base k) : blk < w.heap.size := by
 obtain ⟨-, x, cells, t, -, -, h4, -⟩ := hH.live o blk base k h
 exact (Array.getElem?_eq_some_iff.1 h4).1
theorem HOK.alloc (hH : HOK C B w S β H) (hS : Swf w S) (hB : B ≤ w.heap.size) (o : Go.Obj) : HOK C B (w.alloc o) S β H :=
 hH.ext (alloc_ext hS hB o) (fun _ blk _ _ h => Below.heap_alloc w o blk (hH.lt h)) (fun _ _ _ _ _ _ h => h) (fun _ blk _ h => Below.heap_alloc w o blk (hH.splt h))
theorem HOK.drew (hH : HOK C B w S β H) : HOK C B w.drew S β H :=
 hH.ext drew_ext (fun _ _ _ _ _ => rfl) (fun _ _ _ _ _ _ h => h) (fun _ _ _ _ => rfl)
def Kp (n id : Nat) (β β' : Pl) : Prop := ∀ o, o < n → o ≠ id → β o = .pend → β' o = .pend
theorem Kp.refl (n id : Nat) (β : Pl) : Kp n id β β := fun _ _ _ h => h
theorem Kp.trans {n id : Nat} {β β' β'' : Pl} (h : Kp n id β β') (k : Kp n id β' β'') : Kp n id β β'' := fun o h1 h2 h3 => k o h1 h2 (h o h1 h2 h3)
theorem kp_upd (n id : Nat) (β : Pl) (x : BO) : Kp n id β (upd β id x) := fun _ _ h2 h3 => by rw [upd_ne h2]; exact h3
theorem kp_kill (n id : Nat) {β : Pl} {o : Nat} (h : β o ≠ .pend) (x : BO) : Kp n id β (upd β o x) := fun p _ _ h3 => by
 have : p ≠ o := fun hp => h (hp ▸ h3)
 rw [upd_ne this]; exact h3
theorem upd_sp {β : Pl} {id : Nat} {y : BO} (hy : ∀ blk x, y ≠ .sp blk x) {o blk : Nat} {x : Sp} (h : upd β id y o = .sp blk x) : o ≠ id ∧ β o = .sp blk x := by
 by_cases ho : o = id
 ·subst ho; rw [upd_same] at h; exact absurd h (hy _ _)
 ·rw [upd_ne ho] at h; exact ⟨ho, h⟩
theorem hok_new (hH : HOK C B w S β H) (hS : Swf w S) (hB : B ≤ w.heap.size) {id : Nat} (hp : β id = .pend) (hlt : id < H.length) {cells : Array Value} {e : TypeId} {x : Obj}
  (hc : OCells C w S β cells w.heap.size 0 x) :
  HOK C B (w.alloc (.cells cells e)) S (upd β id (.at w.heap.size 0 x.shape)) (H.put id (some x)) ∧ Later β (upd β id (.at w.heap.size 0 x.shape)) ∧
   (∀ blk base k, upd β id (.at w.heap.size 0 x.shape) id = .at blk base k → blk = w.heap.size ∧ base = 0 ∧ k = x.shape) := by
 have hl := later_upd (x := .at w.heap.size 0 x.shape) hp
 have hext := alloc_ext hS hB (.cells cells e)
 have hnew : ∀ j, ¬ S w.heap.size j := fun j h => absurd (hS.lt h) (Nat.lt_irrefl _)
 have hne : ∀ o blk x', upd β id (.at w.heap.size 0 x.shape) o = .sp blk x' → o ≠ id := fun o blk x' h h' => by subst h'; rw [upd_same] at h; cases h
 have hsp := spf hH (β' := upd β id (.at w.heap.size 0 x.shape)) (H' := H.put id (some x)) hext (fun o blk x' h => by rw [upd_ne (hne _ _ _ h)] at h; exact h) (fun o blk x' h => obj_put_ne (fun h' => hne _ _ _ h h'.symm)) (fun o blk x' h => Below.heap_alloc w _ blk (hH.splt h))
 refine ⟨⟨?_, ?_, ?_, ?_, ?_, hsp.1, hsp.2⟩, hl, ?_⟩
 ·intro o blk base k ho
  by_cases h : o = id
  ·subst h
   rw [upd_same] at ho
   cases ho
   refine ⟨hB, x, cells, e, obj_put_same hlt, rfl, ?_, hc.ext hext hl (fun _ h => h)⟩
   show (w.heap.push _)[w.heap.size]? = _
   simp
  ·rw [upd_ne h] at ho
   obtain ⟨h1, x0, c0, e0, h2, h3, h4, h5⟩ := hH.live o blk base k ho
   refine ⟨h1, x0, c0, e0, by rw [obj_put_ne (fun h' => h h'.symm)]; exact h2, h3, ?_, h5.ext hext hl (fun _ h => h)⟩
   rw [Below.heap_alloc w _ blk (hH.lt ho)]; exact h4
 ·intro o ho
  have h : o ≠ id := fun h => by subst h; rw [upd_same] at ho; cases ho
  rw [upd_ne h] at ho
  rw [obj_put_ne (fun h' => h h'.symm)]; exact hH.dead o ho
 ·intro o ho
  have h : o ≠ id := fun h => by subst h; rw [upd_same] at ho; cases ho
  rw [upd_ne h] at ho
  rw [obj_put_ne (fun h' => h h'.symm)]; exact hH.virt o ho
 ·intro o o' blk base k base' k' h1 h2
  by_cases ha : o = id
  ·by_cases hb : o' = id
   ·rw [ha, hb]
   ·subst ha
    rw [upd_same] at h1; cases h1
    rw [upd_ne hb] at h2
    exact absurd (hH.lt h2) (Nat.lt_irrefl _)
  ·by_cases hb : o' = id
   ·subst hb
    rw [upd_same] at h2; cases h2
    rw [upd_ne ha] at h1
    exact absurd (hH.lt h1) (Nat.lt_irrefl _)
   ·rw [upd_ne ha] at h1
    rw [upd_ne hb] at h2
    exact hH.inj o o' blk base k base' k' h1 h2
 ·intro o ho
  rw [put_length] at ho
  have h : o ≠ id := by omega
  rw [upd_ne h]; exact hH.out o ho
 ·intro blk base k h
  rw [upd_same] at h
  cases h
  exact ⟨rfl, rfl, rfl⟩
theorem mkV_cells {k : K} {f : Nat → Value} (hf : ∀ m, m < k.size → flat (f m)) : (mkV k f).cells = ((List.range k.size).map f).toArray := by
 cases k with
 | none =>
  have := hf 0 (by simp [K.size])
  have hl : (List.range (K.size none)).map f = [f 0] := rfl
  rw [hl]
  simp only [mkV]
  generalize f 0 = u at *
  cases u <;> first | rfl | (simp [flat, Value.oneCell'] at this)
 | some n => rfl
theorem fits_mkV {k : K} {v : PV} {u : Value} (h : fits k v = true) (hv : RelV C w S β v u) : ∃ f : Nat → Value, u = mkV k f ∧ ∀ m, m < k.size → flat (f m) := by
 have key : ∀ (n : Nat) (vs : List Value), vs.length = n → (∀ v ∈ vs, flat v) → ∃ f : Nat → Value, (.agg vs.toArray : Value) = mkV (some n) f ∧ ∀ m, m < n → flat (f m) := by
  intro n vs hl hf
  refine ⟨fun m => vs.getD m undef, ?_, ?_⟩
  ·rw [mkV_some]
   congr 2
   apply List.ext_getElem
   ·simp [hl]
   ·intro i h1 h2
    simp [List.getD, List.getElem?_eq_getElem h1]
  ·intro m hm
   have : m < vs.length := by omega
   simp only [List.getD, List.getElem?_eq_getElem this, Option.getD_some]
   exact hf _ (List.getElem_mem this)
 unfold fits at h
 split at h
 ·refine ⟨fun _ => u, rfl, fun m _ => ?_⟩
  cases hv with
  | u => simp at h
  | d x _ hx =>
   refine hx.flat_of ?_
   rintro cs rfl
   simp at h
  | a => simp at h
  | t => simp at h
  | r _ _ _ _ _ _ h0 => exact h0
  | p _ _ _ _ h0 => exact h0
  | q => rfl
  | f => rfl
  | h _ _ h0 => exact h0
  | g => simp at h
  | m => rfl
  | w => rfl
 ·rename_i n
  split at h
  ·simp only [beq_iff_eq] at h
   cases hv with
   | a _ vs h1 h2 h3 => exact key n vs (by omega) h2
  ·simp only [beq_iff_eq] at h
   cases hv with
   | d _ _ hx =>
   cases hx with
   | a _ vs h1 h2 h3 => exact key n vs (by omega) h2
  ·cases h
theorem zq_rel {t : TypeId} {z : DV} (h : zq P t = some z) : ∃ k v, kq P t = some k ∧ (P.info? t).bind (·.zero) = some v ∧ fits k (.d z) = true ∧ ∀ (w : World) (S : Stab), RelD w S z v := by
 unfold zq at h
 obtain ⟨k, hk, h⟩ := Option.bind_eq_some_iff.1 h
 obtain ⟨v, hv, h⟩ := Option.bind_eq_some_iff.1 h
 obtain ⟨z', hz, h⟩ := Option.bind_eq_some_iff.1 h
 split at h
 ·cases h
  exact ⟨k, v, hk, hv, by assumption, fun w S => conD_sound hz⟩
 ·cases h
theorem run_zero {t : TypeId} {v : Value} (h : (P.info? t).bind (·.zero) = some v) (w : World) : (zeroValue t).run P w = .ok v w := by
 obtain ⟨i, hi, hz⟩ := Option.bind_eq_some_iff.1 h
 simp [zeroValue, typeInfo, hi, hz]
theorem new_var (hH : HOK C B w S β H) (hS : Swf w S) (hB : B ≤ w.heap.size) {id : Nat} (hp : β id = .pend) (hlt : id < H.length) {k : K} {v : PV} {u : Value} (hf : fits k v = true) (hv : RelV C w S β v u) (t : TypeId) :
  ∃ w' β', (newVar t u).run P w = .ok ⟨w.heap.size, 0, none⟩ w' ∧ Ext B w S w' S ∧ HOK C B w' S β' (H.put id (some (.box k v))) ∧ Later β β' ∧ RelV C w' S β' (.p id 0 0) (.pointer (some ⟨w.heap.size, 0, none⟩)) ∧ Kp H.length id β β' := by
 obtain ⟨f, rfl, hfl⟩ := fits_mkV hf hv
 have hc : OCells C w S β (mkV k f).cells w.heap.size 0 (.box k v) := by
  refine ⟨by rw [mkV_cells hfl]; simp, f, ?_, hv, fun j h => absurd (hS.lt h) (Nat.lt_irrefl _)⟩
  intro m hm
  rw [mkV_cells hfl]
  exact ⟨by simp [hm], hfl m hm⟩
 obtain ⟨h1, h2, h3⟩ := hok_new hH hS hB hp hlt (e := t) hc
 refine ⟨w.alloc (.cells (mkV k f).cells t), _, ?_, alloc_ext hS hB _, h1, h2, .p _ _ _ _ rfl ?_, kp_upd _ _ _ _⟩
 ·simp [newVar, newRow]
 ·unfold RelPt
  rw [upd_same]
  simp
theorem putAt_get {α : Type} {l : List α} {c : Nat} {xs : List α} (h : c + xs.length ≤ l.length) (m : Nat) :
  (putAt l c xs)[m]? = if c ≤ m ∧ m < c + xs.length then xs[m - c]? else l[m]? := by
 unfold putAt
 by_cases h1 : m < c
 ·have h2 : ¬ (c ≤ m ∧ m < c + xs.length) := by omega
  rw [if_neg h2, List.append_assoc, List.getElem?_append_left (by simp; omega), List.getElem?_take, if_pos h1]
 ·by_cases h3 : m < c + xs.length
  ·rw [if_pos ⟨by omega, h3⟩, List.getElem?_append_left (by simp; omega), List.getElem?_append_right (by simp; omega)]
   simp; congr 1; omega
  ·rw [if_neg (by omega), List.getElem?_append_right (by simp; omega), List.getElem?_drop]
   simp; congr 1; omega
theorem putAt_length {α : Type} {l : List α} {c : Nat} {xs : List α} (h : c + xs.length ≤ l.length) : (putAt l c xs).length = l.length := by
 simp [putAt]; omega
theorem map_range_get {n m : Nat} (g : Nat → Value) (h : m < n) : ((List.range n).map g)[m]? = some (g m) := by
 rw [List.getElem?_map, List.getElem?_range h]; rfl
theorem run_store_at {t : TypeId} {k : K} (hk : kq P t = some k) {g : Nat → Value} (hg : ∀ m, m < k.size → flat (g m)) {blk o : Nat} {cells : Array Value} {e : TypeId}
  (hw : w.heap[blk]? = some (.cells cells e (0, 0))) (ho : o + k.size ≤ cells.size) :
  (Instr.storeAt t (.pointer (some ⟨blk, o, none⟩)) (mkV k g)).run P w = .ok () (w.setRow blk (putAt cells.toList o ((List.range k.size).map g)).toArray) := by
 have hcs := mkV_cells hg
 have hlen : ((List.range k.size).map g).length = k.size := by simp
 have := run_storeCells_at P blk o e ((List.range k.size).map g) 0 cells w hw (by simpa using ho) (by
  intro v hv
  obtain ⟨m, hm, rfl⟩ := List.mem_map.1 hv
  exact hg m (by simpa using hm))
 simp only [Instr.storeAt, Instr.sureAddr, Sem.run_bind, Sem.run_pure, Result.andThen_ok, storeVar, run_sizeK hk, hcs]
 simp only [List.size_toArray, hlen, ne_eq, not_true_eq_false, if_false, this, Nat.add_zero, putAt]
theorem fits_cells_length {k : K} {v : PV} (h : fits k v = true) : v.cells.length = k.size := by
 unfold fits at h
 split at h
 ·split at h <;> first
   | (simp at h; done)
   | skip
  rename_i h1 h2 h3 h4 h5
  have : v.cells = [v] := by
   unfold PV.cells
   split
   ·exact absurd rfl (h1 _)
   ·exact absurd rfl (h2 _)
   ·rfl
  rw [this]; rfl
 ·split at h
  ·simpa [PV.cells, K.size] using h
  ·simpa [PV.cells, K.size] using h
  ·cases h
theorem mkV_ext {k : K} {f g : Nat → Value} (h : ∀ m, m < k.size → f m = g m) : mkV k f = mkV k g := by
 cases k with
 | none => exact h 0 (by simp [K.size])
 | some n =>
  rw [mkV_some, mkV_some]
  congr 2
  apply List.map_congr_left
  intro m hm
  exact h m (by simpa [K.size] using hm)
theorem pur_cells {v : PV} {x : DV} {os : List Nat} {k : K} (hf : fits k v = true) (h : pur H v = some (x, os)) : fits k (.d x) = true := by
 unfold pur at h
 have hl : ∀ {cs : List PV} {xs : List DV} {os : List Nat}, purL H cs = some (xs, os) → xs.length = cs.length := by
  intro cs
  induction cs with
  | nil => intro xs os h; cases h; rfl
  | cons v r ih =>
   intro xs os h
   unfold purL at h
   split at h
   ·rename_i h2; cases h; simp [ih h2]
   ·cases h
 split at h
 ·split at h
  ·rename_i h1
   cases h
   unfold fits at hf ⊢
   cases k with
   | none => simp at hf
   | some n => simpa [hl h1] using hf
  ·cases h
 ·unfold purC at h
  split at h
  ·cases h; exact hf
  ·split at h
   ·split at h
    ·cases h; cases k <;> simp_all [fits]
    ·cases h
   ·cases h
  ·cases h
theorem DV.cells_map (x : DV) : (PV.d x).cells = x.cells.map .d := by
 cases x <;> simp [PV.cells, DV.cells]
theorem mkP_length {k : K} {cs : List PV} {x : PV} (h : mkP k cs = some x) : cs.length = k.size := by
 unfold mkP at h
 split at h
 ·split at h
  ·rfl
  ·cases h
 ·split at h
  ·assumption
  ·cases h
theorem mkD_length {k : K} {cs : List DV} {x : DV} (h : mkD k cs = some x) : cs.length = k.size := by
 unfold mkD at h
 split at h
 ·split at h
  ·rfl
  ·cases h
 ·split at h
  ·assumption
  ·cases h
theorem fits_cells_lengthD {k : K} {v : DV} (h : fits k (.d v) = true) : v.cells.length = k.size := by
 have := fits_cells_length h
 rwa [DV.cells_map, List.length_map] at this
theorem storeA_sound (hH : HOK C B w S β H) (hS : Swf w S) {t : TypeId} {k : K} (hk : kq P t = some k) {x v : PV} {ux uv : Value} (hx : RelV C w S β x ux) (hv : RelV C w S β v uv) {H' : Heap} (h : storeA H k x v = some H') :
  ∃ w' S', (Instr.storeAt t ux uv).run P w = .ok () w' ∧ Ext B w S w' S' ∧ Swf w' S' ∧ HOK C B w' S' β H' ∧ H'.length = H.length := by
 unfold storeA at h
 split at h
 ·rename_i o i c
  split at h
  ·rename_i hfit
   obtain ⟨g, rfl, hg⟩ := fits_mkV hfit hv
   have hvl := fits_cells_length hfit
   have hrl : ((List.range k.size).map g).length = k.size := by simp
   cases hx with
   | p _ _ _ _ h0 hp =>
   split at h
   ·rename_i kb y ho
    unfold RelPt at hp
    split at hp
    ·exact hp.elim
    ·rename_i hb; rw [hH.dead o hb] at ho; cases ho
    ·exact hp.elim
    ·rename_i blk base k' hb
     subst hp
     obtain ⟨hB, x', cells, e, ho', hs, hw, hc⟩ := hH.live o blk base k' hb
     rw [ho] at ho'
     cases ho'
     obtain ⟨hbs, f, hf, hr, hn⟩ := hc
     simp only [Obj.shape] at hs
     subst hs
     split at h
     ·rename_i hi
      simp only [beq_iff_eq] at hi
      subst hi
      have main : ∀ y', c + k.size ≤ kb.size → RelV C w S β y' (mkV kb (fun m => if c ≤ m ∧ m < c + k.size then g (m - c) else f m)) →
        ∃ w', (Instr.storeAt t (.pointer (some ⟨blk, base + 0 * kb.size + c, none⟩)) (mkV k g)).run P w = .ok () w' ∧ Ext B w S w' S ∧ Swf w' S ∧ HOK C B w' S β (H.put o (some (.box kb y'))) := by
       intro y' hle hry
       have hsz : base + 0 * kb.size + c + k.size ≤ cells.size := by omega
       have hcl : (putAt cells.toList (base + 0 * kb.size + c) ((List.range k.size).map g)).length = cells.toList.length := putAt_length (by simpa using hsz)
       have hext := write_ext (S := S) (cells' := (putAt cells.toList (base + 0 * kb.size + c) ((List.range k.size).map g)).toArray) hB hw (by simpa using hcl) (fun j hj => absurd hj (hn j))
       refine ⟨_, run_store_at hk hg hw hsz, hext, hS.ext hext, ?_⟩
       refine write_hok hH hb hw (by simpa using hcl) (fun j hj => absurd hj (hn j)) rfl ?_
       have hcl' : (putAt cells.toList (base + 0 * kb.size + c) ((List.range k.size).map g)).toArray.size = cells.size := by simpa using hcl
       refine ⟨by rw [hcl']; exact hbs, _, ?_, hry.ext hext (Later.refl _), hn⟩
       intro m hm
       have hget := putAt_get (l := cells.toList) (c := base + 0 * kb.size + c) (xs := (List.range k.size).map g) (by simpa using hsz) (base + m)
       rw [hrl] at hget
       rw [List.getElem?_toArray, hget]
       by_cases hmc : c ≤ m ∧ m < c + k.size
       ·have hc2 : base + 0 * kb.size + c ≤ base + m ∧ base + m < base + 0 * kb.size + c + k.size := by omega
        simp only [hmc, hc2, and_self, if_true]
        have : base + m - (base + 0 * kb.size + c) = m - c := by omega
        rw [this]
        exact ⟨map_range_get g (by omega), hg _ (by omega)⟩
       ·have hc2 : ¬ (base + 0 * kb.size + c ≤ base + m ∧ base + m < base + 0 * kb.size + c + k.size) := by omega
        simp only [hmc, hc2, if_false]
        simpa using hf m hm
      split at h
      ·rename_i hck
       simp only [Bool.and_eq_true, beq_iff_eq] at hck
       obtain ⟨rfl, hkk⟩ := hck
       have := K.eq_spec hkk
       subst this
       cases h
       obtain ⟨w', h1, h2, h3, h4⟩ := main v (by omega) (by
        rw [mkV_ext (g := g)]
        ·exact hv
        ·intro m hm; rw [if_pos (by omega)]; simp)
       exact ⟨w', S, h1, h2, h3, h4, put_length _ _ _⟩
      ·split at h
       ·rename_i hle
        split at h
        ·rename_i y' hy'
         cases h
         have hle2 : c + k.size ≤ kb.size := by
          have h1 := mkP_length hy'
          rw [putAt_length (by omega)] at h1
          omega
         obtain ⟨w', h1, h2, h3, h4⟩ := main y' hle2 (by
          refine mkP_rel hy' ?_ ?_
          ·intro m z hz hm
           rw [putAt_get (by omega)] at hz
           rw [hvl] at hz
           split at hz
           ·rename_i hc1
            simp only [hc1, and_self, if_true]
            exact hv.cells hg (m - c) z hz (by omega)
           ·rename_i hc1
            simp only [hc1, if_false]
            exact hr.cells (fun m hm => (hf m hm).2) m z hz hm
          ·intro m hm
           split
           ·exact hg _ (by omega)
           ·exact (hf m hm).2)
         exact ⟨w', S, h1, h2, h3, h4, put_length _ _ _⟩
        ·cases h
       ·cases h
     ·cases h
    ·exact hp.elim
   ·rename_i kb ro es ho
    split at h
    ·rename_i ee hee
     obtain ⟨hil, rfl⟩ := List.getElem?_eq_some_iff.1 hee
     split at h
     ·rename_i hro
      split at h
      ·rename_i x os hpur
       split at h
       ·cases h
       ·rename_i hno
        have hno' : o ∉ os := by simpa using hno
        have hfx := pur_cells hfit hpur
        have hxl := fits_cells_lengthD hfx
        unfold RelPt at hp
        split at hp
        ·exact hp.elim
        ·rename_i hb; rw [hH.dead o hb] at ho; cases ho
        ·exact hp.elim
        ·rename_i blk base k' hb
         subst hp
         have hH1 := freeze_hok hH os
         have hext1 := freeze_ext hH os
         have hS1 := freeze_swf hH hS os
         have hvx := pur_rel hH hv hpur
         generalize hS1d : FSq β H os S = S1 at *
         have hob : (frz H os).obj o = some (.sl kb ro es) := by rw [frz_obj, ho]; simp [frzO, hno']
         obtain ⟨hB, x', cells, e, ho', hs, hw, hc⟩ := hH1.live o blk base k' hb
         rw [hob] at ho'
         cases ho'
         obtain ⟨hbs, cf, hf, hr, hn⟩ := hc
         simp only [Obj.shape] at hs
         subst hs
         have hi1 : (i + 1) * kb.size ≤ es.length * kb.size := Nat.mul_le_mul_right _ hil
         rw [Nat.add_mul, Nat.one_mul] at hi1
         have hi2 : ro * kb.size ≤ i * kb.size := Nat.mul_le_mul_right _ hro
         have main : ∀ y', c + k.size ≤ kb.size → RelD w S1 y' (mkV kb (fun m => if c ≤ m ∧ m < c + k.size then g (m - c) else cf i m)) →
           ∃ w', (Instr.storeAt t (.pointer (some ⟨blk, base + i * kb.size + c, none⟩)) (mkV k g)).run P w = .ok () w' ∧ Ext B w S1 w' S1 ∧ Swf w' S1 ∧ HOK C B w' S1 β ((frz H os).put o (some (.sl kb ro (es.set i y')))) := by
          intro y' hle hry
          have hsz : base + i * kb.size + c + k.size ≤ cells.size := by omega
          have hcl : (putAt cells.toList (base + i * kb.size + c) ((List.range k.size).map g)).length = cells.toList.length := putAt_length (by simpa using hsz)
          have hget : ∀ j, (putAt cells.toList (base + i * kb.size + c) ((List.range k.size).map g)).toArray[j]? = if base + i * kb.size + c ≤ j ∧ j < base + i * kb.size + c + k.size then ((List.range k.size).map g)[j - (base + i * kb.size + c)]? else cells[j]? := by
           intro j
           have := putAt_get (l := cells.toList) (c := base + i * kb.size + c) (xs := (List.range k.size).map g) (by simpa using hsz) j
           rw [hrl] at this
           rw [List.getElem?_toArray, this]
           simp
          have hkeep : ∀ j, S1 blk j → (putAt cells.toList (base + i * kb.size + c) ((List.range k.size).map g)).toArray[j]? = cells[j]? := by
           intro j hj
           rw [hget, if_neg]
           intro hc
           exact hn j (by omega) hj
          have hext := write_ext (S := S1) (cells' := (putAt cells.toList (base + i * kb.size + c) ((List.range k.size).map g)).toArray) hB hw (by simpa using hcl) hkeep
          refine ⟨_, run_store_at hk hg hw hsz, hext, hS1.ext hext, ?_⟩
          refine write_hok hH1 hb hw (by simpa using hcl) hkeep rfl ?_
          have hcl' : (putAt cells.toList (base + i * kb.size + c) ((List.range k.size).map g)).toArray.size = cells.size := by simpa using hcl
          refine ⟨by rw [hcl', List.length_set]; exact hbs, (fun j m => if j = i then (if c ≤ m ∧ m < c + k.size then g (m - c) else cf i m) else cf j m), ?_, ?_, hn⟩
          ·intro j hj m hm
           rw [List.length_set] at hj
           rw [hget]
           by_cases hji : j = i
           ·subst hji
            simp only [if_true]
            by_cases hmc : c ≤ m ∧ m < c + k.size
            ·have hc2 : base + j * kb.size + c ≤ base + j * kb.size + m ∧ base + j * kb.size + m < base + j * kb.size + c + k.size := by omega
             simp only [hmc, hc2, and_self, if_true]
             have : base + j * kb.size + m - (base + j * kb.size + c) = m - c := by omega
             rw [this]
             exact ⟨map_range_get g (by omega), hg _ (by omega)⟩
            ·have hc2 : ¬ (base + j * kb.size + c ≤ base + j * kb.size + m ∧ base + j * kb.size + m < base + j * kb.size + c + k.size) := by omega
             simp only [hmc, hc2, if_false]
             exact hf j hj m hm
           ·simp only [hji, if_false]
            have hc2 : ¬ (base + i * kb.size + c ≤ base + j * kb.size + m ∧ base + j * kb.size + m < base + i * kb.size + c + k.size) := by
             rcases Nat.lt_or_gt_of_ne hji with h1 | h1
             ·have : (j + 1) * kb.size ≤ i * kb.size := Nat.mul_le_mul_right _ h1
              rw [Nat.add_mul, Nat.one_mul] at this
              omega
             ·have : (i + 1) * kb.size ≤ j * kb.size := Nat.mul_le_mul_right _ h1
              rw [Nat.add_mul, Nat.one_mul] at this
              omega
            simp only [hc2, if_false]
            exact hf j hj m hm
          ·intro j hj
           rw [List.length_set] at hj
           rw [List.getElem_set]
           by_cases hji : i = j
           ·subst hji
            simp only [if_true]
            exact hry.ext hext
           ·have : ¬ j = i := fun h => hji h.symm
            simp only [hji, this, if_false]
            exact (hr j hj).ext hext
         have fin : ∀ y', c + k.size ≤ kb.size → RelD w S1 y' (mkV kb (fun m => if c ≤ m ∧ m < c + k.size then g (m - c) else cf i m)) →
           ∃ w' S', (Instr.storeAt t (.pointer (some ⟨blk, base + i * kb.size + c, none⟩)) (mkV k g)).run P w = .ok () w' ∧ Ext B w S w' S' ∧ Swf w' S' ∧ HOK C B w' S' β ((frz H os).put o (some (.sl kb ro (es.set i y')))) ∧ ((frz H os).put o (some (.sl kb ro (es.set i y')))).length = H.length := by
          intro y' h1 h2
          obtain ⟨w', a1, a2, a3, a4⟩ := main y' h1 h2
          exact ⟨w', S1, a1, hext1.trans a2, a3, a4, by rw [put_length, frz_length]⟩
         split at h
         ·rename_i hck
          simp only [Bool.and_eq_true, beq_iff_eq] at hck
          obtain ⟨rfl, hkk⟩ := hck
          have := K.eq_spec hkk
          subst this
          cases h
          refine fin x (by omega) ?_
          rw [mkV_ext (g := g)]
          ·exact hvx
          ·intro m hm; rw [if_pos (by omega)]; simp
         ·split at h
          ·rename_i hle
           split at h
           ·rename_i y' hy'
            cases h
            have hle2 : c + k.size ≤ kb.size := by
             have h1 := mkD_length hy'
             rw [putAt_length (by omega)] at h1
             omega
            refine fin y' hle2 (mkD_rel hy' ?_ ?_)
            ·intro m z hz hm
             rw [putAt_get (by omega)] at hz
             rw [hxl] at hz
             split at hz
             ·rename_i hc1
              simp only [hc1, and_self, if_true]
              exact hvx.cells hg (m - c) z hz (by omega)
             ·rename_i hc1
              simp only [hc1, if_false]
              exact (hr i hil).cells (fun m hm => (hf i hil m hm).2) m z hz hm
            ·intro m hm
             split
             ·exact hg _ (by omega)
             ·exact (hf i hil m hm).2
           ·cases h
          ·cases h
        ·exact hp.elim
      ·cases h
     ·cases h
    ·cases h
   ·cases h
  ·cases h
 ·cases h
end
end Go.Sim
end
section
open Go.RowKit
namespace Go.Sim
section
variable {P : Program} {N : Names} {C : Cx} {w : World} {S : Stab} {β : Pl} {B : Nat} {H : Heap}
theorem fold_set (off : Nat) : ∀ (l : List Value) (k : Nat) (A : Array Value), off + k + l.length ≤ A.size →
  (l.zipIdx k).foldl (fun cs p => cs.setIfInBounds (off + p.2) p.1) A = (putAt A.toList (off + k) l).toArray
 | [], k, A, _ => by simp [putAt]
 | v :: r, k, A, h => by
  simp only [List.length_cons] at h
  rw [List.zipIdx_cons, List.foldl_cons, fold_set off r (k + 1) _ (by simp; omega)]
  have := list_seg_step A.toList (off + k) v r (by simpa using (by omega : off + k + (r.length + 1) ≤ A.size))
  congr 1
  unfold putAt
  simp only [Array.toList_setIfInBounds, List.length_cons]
  rw [show off + (k + 1) = off + k + 1 by omega]
  exact this
theorem fill_cons {place : Nat → Option (Nat × Nat)} {i off size : Nat} {v : Value} {rest : List (Nat × Value)} {A : Array Value} (hp : place i = some (off, size)) (hs : v.cells.size = size) (hle : off + size ≤ A.size) :
  Instr.fill place A ((i, v) :: rest) = Instr.fill place (putAt A.toList off v.cells.toList).toArray rest := by
 have h1 : ¬ (v.cells.size ≠ size || off + v.cells.size > A.size) = true := by simp [hs]; omega
 simp only [Instr.fill, hp]
 rw [if_neg (by simpa using h1)]
 congr 1
 have := fold_set off v.cells.toList 0 A (by simp [hs]; omega)
 rw [← Array.foldl_toList, Array.toList_zipIdx]
 simpa using this
def CRel (C : Cx) (w : World) (S : Stab) (β : Pl) (z : List PV) (A : List Value) : Prop :=
 z.length = A.length ∧ (∀ v ∈ A, flat v) ∧ ∀ j (h : j < z.length) (h' : j < A.length), RelV C w S β z[j] A[j]
theorem CRel.putAt {z : List PV} {A : List Value} (h : CRel C w S β z A) {off : Nat} {xs : List PV} {us : List Value} (hx : CRel C w S β xs us) (hle : off + xs.length ≤ z.length) : CRel C w S β (putAt z off xs) (putAt A off us) := by
 obtain ⟨h1, h2, h3⟩ := h
 obtain ⟨x1, x2, x3⟩ := hx
 have hle' : off + us.length ≤ A.length := by omega
 refine ⟨by rw [putAt_length hle, putAt_length hle']; exact h1, ?_, ?_⟩
 ·intro v hv
  unfold Sim.putAt at hv
  rcases List.mem_append.1 hv with hv | hv
  ·rcases List.mem_append.1 hv with hv | hv
   ·exact h2 v (List.mem_of_mem_take hv)
   ·exact x2 v hv
  ·exact h2 v (List.mem_of_mem_drop hv)
 ·intro j hj hj'
  have e1 := putAt_get hle j
  have e2 := putAt_get hle' j
  rw [List.getElem?_eq_getElem hj] at e1
  rw [List.getElem?_eq_getElem hj'] at e2
  rw [x1] at e1
  split at e1
  ·rename_i hc
   rw [if_pos hc] at e2
   rw [List.getElem?_eq_getElem (by omega), Option.some.injEq] at e1 e2
   rw [e1, e2]
   exact x3 _ _ _
  ·rename_i hc
   rw [if_neg hc] at e2
   rw [putAt_length hle] at hj
   rw [List.getElem?_eq_getElem (by omega), Option.some.injEq] at e1 e2
   rw [e1, e2]
   exact h3 _ _ _
theorem cells_crel {k : K} {v : PV} {u : Value} (hf : fits k v = true) (hv : RelV C w S β v u) : CRel C w S β v.cells u.cells.toList ∧ u.cells.size = k.size := by
 obtain ⟨f, rfl, hfl⟩ := fits_mkV hf hv
 have hl := fits_cells_length hf
 rw [mkV_cells hfl]
 refine ⟨⟨by simp [hl], ?_, ?_⟩, by simp⟩
 ·intro x hx
  simp only [List.mem_map, List.mem_range] at hx
  obtain ⟨m, hm, rfl⟩ := hx
  exact hfl m hm
 ·intro j hj hj'
  have := hv.cells hfl j v.cells[j] (List.getElem?_eq_getElem hj) (by omega)
  simpa using this
theorem mkA_rel {z : List PV} {A : List Value} (h : CRel C w S β z A) : RelV C w S β (mkA z) (.agg A.toArray) := by
 obtain ⟨h1, h2, h3⟩ := h
 unfold mkA
 split
 ·rename_i vs hp
  have := plains_map hp
  subst this
  refine .d _ _ (.a vs A (by simpa using h1) h2 ?_)
  intro j hj hj'
  have := h3 j (by simpa using hj) hj'
  simp only [List.getElem_map] at this
  cases this with
  | d _ _ h => exact h
 ·exact .a z A h1 h2 h3
def PartsRel (C : Cx) (w : World) (S : Stab) (β : Pl) (place : Nat → Option (Nat × Nat)) : List (Nat × K × PV) → List (Nat × Value) → Prop
 | [], [] => True
 | (off, k, v) :: r, (i, u) :: s => place i = some (off, k.size) ∧ RelV C w S β v u ∧ PartsRel C w S β place r s
 | _, _ => False
theorem aggA_sound {place : Nat → Option (Nat × Nat)} : ∀ {parts : List (Nat × K × PV)} {us : List (Nat × Value)} {z cs : List PV} {A : List Value}, CRel C w S β z A → PartsRel C w S β place parts us → aggA z parts = some cs →
  ∃ A', Instr.fill place A.toArray us = some A'.toArray ∧ CRel C w S β cs A'
 | [], [], z, cs, A, h, _, ha => by cases ha; exact ⟨A, rfl, h⟩
 | [], _ :: _, _, _, _, _, hp, _ => hp.elim
 | _ :: _, [], _, _, _, _, hp, _ => by unfold PartsRel at hp; exact hp.elim
 | (off, k, v) :: r, (i, u) :: s, z, cs, A, h, hp, ha => by
  obtain ⟨p1, p2, p3⟩ := hp
  unfold aggA at ha
  split at ha
  ·rename_i hc
   simp only [Bool.and_eq_true, decide_eq_true_eq] at hc
   obtain ⟨c1, c2⟩ := cells_crel hc.1 p2
   have hl := fits_cells_length hc.1
   have h' := h.putAt c1 (by rw [hl]; exact hc.2)
   obtain ⟨A', e1, e2⟩ := aggA_sound h' p3 ha
   refine ⟨A', ?_, e2⟩
   rw [fill_cons p1 c2 (by simp only [List.size_toArray]; rw [← h.1]; exact hc.2)]
   exact e1
  ·cases ha
def placeOf (f : Field) : Sem (Nat × Nat) := do pure (f.offset, ← sizeOf f.type)
theorem run_placeOf {f : Field} (h : (P.info? f.type).isSome = true) (w : World) : (placeOf f).run P w = .ok (f.offset, P.cellsOf f.type) w := by
 obtain ⟨i, hi⟩ := Option.isSome_iff_exists.1 h
 simp [placeOf, sizeOf, typeInfo, hi, Program.cellsOf]
theorem run_places {fs : List Field} (h : fs.all (fun f => (P.info? f.type).isSome) = true) (w : World) :
  (fs.mapM placeOf).run P w = .ok (fs.map fun f => (f.offset, P.cellsOf f.type)) w := by
 induction fs with
 | nil => rfl
 | cons f r ih =>
  simp only [List.all_cons, Bool.and_eq_true] at h
  simp only [List.mapM_cons, Sem.run_bind, run_placeOf h.1, Result.andThen_ok, ih h.2, Sem.run_pure, List.map_cons]
theorem zero_crel {k : K} {z : DV} {v : Value} (hf : fits k (.d z) = true) (hz : ∀ (w : World) (S : Stab), RelD w S z v) : CRel C w S β (z.cells.map .d) v.cells.toList ∧ v.cells.size = k.size := by
 have := cells_crel (C := C) (β := β) hf (.d _ _ (hz w S))
 rwa [DV.cells_map] at this
theorem build_struct_sound {t : TypeId} {z : DV} (hz : zq P t = some z) {fs : Array Field} (hu : P.underlying t = some (.struct fs)) (hall : fs.toList.all (fun f => (P.info? f.type).isSome) = true)
  {parts : List (Nat × K × PV)} {us : List (Nat × Value)} (hp : PartsRel C w S β (fun i => (fs[i]?).map fun f => (f.offset, P.cellsOf f.type)) parts us) {cs : List PV} (h : aggA (z.cells.map .d) parts = some cs) :
  ∃ u, (Instr.build t us.toArray).run P w = .ok u w ∧ RelV C w S β (mkA cs) u := by
 obtain ⟨k, v, hk, hv, hf, hr⟩ := zq_rel hz
 obtain ⟨h1, h2⟩ := zero_crel (C := C) (w := w) (S := S) (β := β) hf hr
 obtain ⟨A', e1, e2⟩ := aggA_sound h1 hp h
 refine ⟨.agg A'.toArray, ?_, mkA_rel e2⟩
 have hplaces : (fs.mapM placeOf).run P w = .ok (fs.map fun f => (f.offset, P.cellsOf f.type)) w := by
  rw [Array.mapM_eq_mapM_toList, Sem.run_map, run_places hall]
  simp only [Result.andThen_ok]
  congr 1
  apply Array.ext'
  simp
 have hfill : Instr.fill ((fs.map fun f => (f.offset, P.cellsOf f.type))[·]?) v.cells us = some A'.toArray := by
  rw [← Array.toArray_toList (xs := v.cells), ← e1]
  congr 1
  funext i
  simp
 simp only [Instr.build, Sem.run_bind, run_zero hv, Result.andThen_ok, run_und hu]
 show Result.andThen ((fs.mapM placeOf).run P w) _ = _
 rw [hplaces]
 simp only [Result.andThen_ok, hfill, Sem.run_pure]
theorem build_array_sound {t e : TypeId} {n : Nat} {z : DV} (hz : zq P t = some z) (hu : P.underlying t = some (.array n e)) {k : K} (hke : kq P e = some k)
  {parts : List (Nat × K × PV)} {us : List (Nat × Value)} (hp : PartsRel C w S β (fun i => some (i * P.cellsOf e, P.cellsOf e)) parts us) {cs : List PV} (h : aggA (z.cells.map .d) parts = some cs) :
  ∃ u, (Instr.build t us.toArray).run P w = .ok u w ∧ RelV C w S β (mkA cs) u := by
 obtain ⟨k', v, hk, hv, hf, hr⟩ := zq_rel hz
 obtain ⟨h1, h2⟩ := zero_crel (C := C) (w := w) (S := S) (β := β) hf hr
 obtain ⟨A', e1, e2⟩ := aggA_sound h1 hp h
 refine ⟨.agg A'.toArray, ?_, mkA_rel e2⟩
 have hfill : Instr.fill (fun i => some (i * k.size, k.size)) v.cells us = some A'.toArray := by
  rw [← Array.toArray_toList (xs := v.cells), ← e1]
  congr 1
  funext i
  rw [kq_size hke]
 simp [Instr.build, run_zero hv, run_und hu, run_sizeK hke, hfill]
def ERel (w : World) (S : Stab) (k : K) (es : List DV) (A : List Value) : Prop :=
 es.length * k.size ≤ A.length ∧ ∃ c : Nat → Nat → Value, (∀ j, j < es.length → ∀ m, m < k.size → A[j * k.size + m]? = some (c j m) ∧ flat (c j m)) ∧ ∀ j (h : j < es.length), RelD w S es[j] (mkV k (c j))
theorem mul_block {i j s m : Nat} (h : j ≠ i) (hm : m < s) (c1 : i * s ≤ j * s + m) (c2 : j * s + m < i * s + s) : False := by
 rcases Nat.lt_or_gt_of_ne h with h1 | h1
 ·have : (j + 1) * s ≤ i * s := Nat.mul_le_mul_right _ h1
  rw [Nat.add_mul, Nat.one_mul] at this
  omega
 ·have : (i + 1) * s ≤ j * s := Nat.mul_le_mul_right _ h1
  rw [Nat.add_mul, Nat.one_mul] at this
  omega
theorem ERel.set {k : K} {es : List DV} {A : List Value} (h : ERel w S k es A) {i : Nat} (hi : i < es.length) {x : DV} {g : Nat → Value} (hg : ∀ m, m < k.size → flat (g m)) (hx : RelD w S x (mkV k g)) :
  ERel w S k (es.set i x) (putAt A (i * k.size) ((List.range k.size).map g)) := by
 obtain ⟨hle, c, hf, hr⟩ := h
 have hi1 : (i + 1) * k.size ≤ es.length * k.size := Nat.mul_le_mul_right _ hi
 rw [Nat.add_mul, Nat.one_mul] at hi1
 have hrl : ((List.range k.size).map g).length = k.size := by simp
 have hget := putAt_get (l := A) (c := i * k.size) (xs := (List.range k.size).map g) (by rw [hrl]; omega)
 rw [hrl] at hget
 refine ⟨by rw [putAt_length (by rw [hrl]; omega), List.length_set]; exact hle, (fun j m => if j = i then g m else c j m), ?_, ?_⟩
 ·intro j hj m hm
  rw [List.length_set] at hj
  rw [hget]
  by_cases hji : j = i
  ·subst hji
   have hc2 : j * k.size ≤ j * k.size + m ∧ j * k.size + m < j * k.size + k.size := by omega
   simp only [hc2, and_self, if_true]
   have : j * k.size + m - j * k.size = m := by omega
   rw [this]
   exact ⟨map_range_get g hm, hg _ hm⟩
  ·have hc2 : ¬ (i * k.size ≤ j * k.size + m ∧ j * k.size + m < i * k.size + k.size) := fun hc => mul_block hji hm hc.1 hc.2
   simp only [hji, hc2, if_false]
   exact hf j hj m hm
 ·intro j hj
  rw [List.length_set] at hj
  rw [List.getElem_set]
  by_cases hji : i = j
  ·subst hji
   simp only [if_true]
   exact hx
  ·have : ¬ j = i := fun h => hji h.symm
   simp only [hji, this, if_false]
   exact hr j hj
theorem ERel.mono {S' : Stab} {k : K} {es : List DV} {A : List Value} (h : ERel w S k es A) (e : ∀ b o, S b o → S' b o) : ERel w S' k es A := by
 obtain ⟨h0, c, h1, h2⟩ := h
 exact ⟨h0, c, h1, fun j hj => (h2 j hj).more e⟩
def SPartsRel (C : Cx) (w : World) (S : Stab) (β : Pl) : List (Nat × PV) → List (Nat × Value) → Prop
 | [], [] => True
 | (j, v) :: r, (i, u) :: s => i = j ∧ RelV C w S β v u ∧ SPartsRel C w S β r s
 | _, _ => False
theorem bslA_sound (hH : HOK C B w S β H) {k : K} : ∀ {parts : List (Nat × PV)} {us : List (Nat × Value)} {es es' : List DV} {os : List Nat} {A : List Value} (S' : Stab), (∀ b j, S b j → S' b j) → (∀ b j, FSq β H os S b j → S' b j) →
  ERel w S' k es A → SPartsRel C w S β parts us → bslA H k es parts = some (es', os) → ∃ A', Instr.fill (fun i => some (i * k.size, k.size)) A.toArray us = some A'.toArray ∧ ERel w S' k es' A' ∧ es'.length = es.length ∧ A'.length = A.length
 | [], [], es, es', os, A, S', hs, hs', h, _, hb => by cases hb; exact ⟨A, rfl, h, rfl, rfl⟩
 | [], _ :: _, _, _, _, _, _, _, _, _, hp, _ => hp.elim
 | _ :: _, [], _, _, _, _, _, _, _, _, hp, _ => by unfold SPartsRel at hp; exact hp.elim
 | (j, v) :: r, (i, u) :: s, es, es', os, A, S', hs, hs', h, hp, hb => by
  obtain ⟨rfl, p2, p3⟩ := hp
  unfold bslA at hb
  split at hb
  ·rename_i hc
   simp only [Bool.and_eq_true, decide_eq_true_eq] at hc
   split at hb
   ·rename_i x os1 hpur
    split at hb
    ·rename_i es1 ps hb'
     cases hb
     obtain ⟨g, rfl, hg⟩ := fits_mkV hc.1 p2
     have hx := (pur_rel hH p2 hpur).more (S' := S') (fun b j hj => hs' b j (FSq.mono (fun o ho => List.mem_append_left _ ho) b j hj))
     have h' := h.set hc.2 hg hx
     obtain ⟨A', e1, e2, e3, e4⟩ := bslA_sound hH S' hs (fun b j hj => hs' b j (FSq.mono (fun o ho => List.mem_append_right _ ho) b j hj)) h' p3 hb'
     have hi1 : (i + 1) * k.size ≤ es.length * k.size := Nat.mul_le_mul_right _ hc.2
     rw [Nat.add_mul, Nat.one_mul] at hi1
     refine ⟨A', ?_, e2, by rw [e3, List.length_set], by rw [e4, putAt_length (by have := h.1; simp; omega)]⟩
     rw [fill_cons (off := i * k.size) (size := k.size) rfl (by rw [mkV_cells hg]; simp) (by have := h.1; simp only [List.size_toArray]; omega)]
     rw [mkV_cells hg]
     exact e1
    ·cases hb
   ·cases hb
  ·cases hb
theorem zrow {n : Nat} {k : K} {z : DV} {v : Value} (hf : fits k (.d z) = true) (hz : ∀ (w : World) (S : Stab), RelD w S z v) (zs : Array Value) (hzs : n * k.size ≠ 0 → zs = v.cells) :
  ERel w S k (List.replicate n z) ((Array.range (n * k.size)).map (zs[· % zs.size]!)).toList := by
 obtain ⟨f, rfl, hfl⟩ := fits_mkV (C := ⟨fun _ => 0⟩) (β := fun _ => .pend) hf (.d _ _ (hz w S))
 refine ⟨by simp, (fun _ m => f m), ?_, ?_⟩
 ·intro j hj m hm
  rw [List.length_replicate] at hj
  have hjm : j * k.size + m < n * k.size := by
   have : (j + 1) * k.size ≤ n * k.size := Nat.mul_le_mul_right _ hj
   rw [Nat.add_mul, Nat.one_mul] at this
   omega
  have := hzs (by omega)
  subst this
  refine ⟨?_, hfl m hm⟩
  rw [mkV_cells hfl]
  have e1 : (j * k.size + m) % k.size = m := by
   rw [Nat.add_comm, Nat.add_mul_mod_self_right, Nat.mod_eq_of_lt hm]
  simp only [Array.toList_map, Array.toList_range, List.getElem?_map, List.getElem?_range hjm, Option.map_some, List.size_toArray, List.length_map, List.length_range, e1]
  simp [hm]
 ·intro j hj
  rw [List.getElem_replicate]
  exact hz w S
theorem new_row_at (hH : HOK C B w S β H) (hS : Swf w S) (hB : B ≤ w.heap.size) {id : Nat} (hp : β id = .pend) (hlt : id < H.length) {k : K} {es : List DV} {A : List Value} (h : ERel w S k es A) (t : TypeId) (ro : Nat) {len cap : Nat} {tt : Bool} (hcap : cap * k.size ≤ A.length) (hlc : len ≤ cap) (htt : tt = true → cap = len) :
  Ext B w S (w.alloc (.cells A.toArray t)) S ∧ HOK C B (w.alloc (.cells A.toArray t)) S (upd β id (.at w.heap.size 0 k)) (H.put id (some (.sl k ro es))) ∧ Later β (upd β id (.at w.heap.size 0 k)) ∧
   RelV C (w.alloc (.cells A.toArray t)) S (upd β id (.at w.heap.size 0 k)) (.r id k 0 len tt) (.slice (some ⟨w.heap.size, 0, none⟩) len cap) := by
 obtain ⟨h0, c, h1, h2⟩ := h
 have hc : OCells C w S β A.toArray w.heap.size 0 (.sl k ro es) := by
  refine ⟨by simpa using h0, c, ?_, h2, fun j _ h => absurd (hS.lt h) (Nat.lt_irrefl _)⟩
  intro j hj m hm
  simpa using h1 j hj m hm
 obtain ⟨e1, e2, e3⟩ := hok_new hH hS hB hp hlt (e := t) hc
 refine ⟨alloc_ext hS hB _, e1, e2, .r _ _ _ _ _ _ rfl ?_⟩
 unfold RelRf
 rw [upd_same]
 refine ⟨rfl, cap, _, rfl, fun _ => by simp, hlc, htt, t, A.length, ?_, by simpa using hcap⟩
 show (match (w.heap.push _)[w.heap.size]? with | some (.cells c elem _) => some (elem, c.size) | _ => none) = _
 simp
end
end Go.Sim
end
section
open Go.RowKit
namespace Go.Sim
section
variable {P : Program} {N : Names} {C : Cx} {w : World} {S : Stab} {β : Pl} {B : Nat} {H : Heap}
structure Reads (P : Program) (w : World) (S : Stab) (k : K) (ys : List DV) (u : Value) (A : List Value) : Prop where
 len : (Builtin.lenOf u).run P w = .ok ys.length w
 cells : ∀ n, n ≤ ys.length → ∀ w' : World, w'.heap = w.heap → (Builtin.firstCells k.size n u).run P w' = .ok (A.take (n * k.size)).toArray w'
 size : A.length = ys.length * k.size
 rel : ERel w S k ys A
theorem read_row {k : K} {ys : List DV} {u : Value} {c : Nat → Nat → Value} {blk off len cap : Nat} (hu : u = .slice (some ⟨blk, off, none⟩) len cap) (hl : len = ys.length)
  (hc : ∀ j, j < ys.length → ∀ m, m < k.size → w.cell? ⟨blk, off + j * k.size + m, none⟩ = some (c j m) ∧ flat (c j m)) (hr : ∀ j (h : j < ys.length), RelD w S ys[j] (mkV k (c j))) : ∃ A, Reads P w S k ys u A := by
 subst hu hl
 have hA : ∀ x, x < ys.length * k.size → x / k.size < ys.length ∧ x % k.size < k.size ∧ x / k.size * k.size + x % k.size = x := by
  intro x hx
  have hk : 0 < k.size := by
   rcases Nat.eq_zero_or_pos k.size with h0 | h0
   ·rw [h0] at hx; omega
   ·exact h0
  refine ⟨(Nat.div_lt_iff_lt_mul hk).2 hx, Nat.mod_lt _ hk, ?_⟩
  rw [Nat.mul_comm]; exact Nat.div_add_mod x k.size
 refine ⟨(List.range (ys.length * k.size)).map fun x => c (x / k.size) (x % k.size), ?_, ?_, by simp, ?_⟩
 ·simp [Builtin.lenOf]
 ·intro n hn w' hw'
  have hnk : n * k.size ≤ ys.length * k.size := Nat.mul_le_mul_right _ hn
  have := run_loadCells (P := P) w' ⟨blk, off, none⟩ (n * k.size) (fun x => c (x / k.size) (x % k.size)) (fun j hj => by
   obtain ⟨h1, h2, h3⟩ := hA j (by omega)
   rw [add_at]
   have := (hc _ h1 _ h2).1
   have e : off + j / k.size * k.size + j % k.size = off + j := by omega
   rw [e] at this
   rw [← this]
   simp only [World.cell?, hw'])
  simp only [Builtin.firstCells, this]
  congr 2
  rw [← List.map_take, List.take_range, Nat.min_eq_left hnk]
 ·refine ⟨by simp, c, ?_, hr⟩
  intro j hj m hm
  have hjm : j * k.size + m < ys.length * k.size := by
   have : (j + 1) * k.size ≤ ys.length * k.size := Nat.mul_le_mul_right _ hj
   rw [Nat.add_mul, Nat.one_mul] at this
   omega
  refine ⟨?_, (hc j hj m hm).2⟩
  rw [map_range_get _ hjm]
  have e1 : (j * k.size + m) % k.size = m := by rw [Nat.add_comm, Nat.add_mul_mod_self_right, Nat.mod_eq_of_lt hm]
  have e2 : (j * k.size + m) / k.size = j := by
   rw [Nat.add_comm, Nat.add_mul_div_right _ _ (by omega), Nat.div_eq_of_lt hm, Nat.zero_add]
  rw [e1, e2]
theorem read_none {k : K} (a : Option Addr) (cap : Nat) (_t : Bool) : Reads P w S k ([] : List DV) (.slice a 0 cap) [] := by
 refine ⟨by simp [Builtin.lenOf], ?_, by simp, ⟨by simp, fun _ _ => undef, fun j hj => absurd hj (Nat.not_lt_zero _), fun j hj => absurd hj (Nat.not_lt_zero _)⟩⟩
 intro n hn w' _
 have : n = 0 := by simpa using hn
 subst this
 cases a <;> simp [Builtin.firstCells, loadCells, loadCellsFrom]
theorem elemsA_sound (hH : HOK C B w S β H) {k : K} {y : PV} {u : Value} {ys : List DV} (hy : RelV C w S β y u) (h : elemsA H k y = some ys) : ∃ A, Reads P w S k ys u A := by
 unfold elemsA at h
 split at h
 ·rename_i k' es t
  split at h
  ·rename_i hke
   cases h
   cases hy with
   | d _ _ hy =>
   cases hy with
   | l _ _ _ a cap blk off c c1 c2 c3 c4 c5 =>
   cases hes : ys with
   | nil => subst hes; exact ⟨_, read_none a cap true⟩
   | cons e r =>
    rw [← hes]
    have h0 : 0 < ys.length := by rw [hes]; simp
    have hk : k = k' := by
     rcases Bool.or_eq_true _ _ ▸ hke with hq | hq
     ·exact K.eq_spec hq
     ·rw [hes] at hq; simp at hq
    subst hk
    exact read_row (c := c) (by rw [c3 h0]) rfl (fun j hj m hm => ⟨(c4 j hj m hm).1, (c4 j hj m hm).2.2⟩) c5
  ·cases h
 ·rename_i o k' off len t
  split at h
  ·rename_i k'' ro es ho
   split at h
   ·rename_i hc
    simp only [Bool.and_eq_true, decide_eq_true_eq] at hc
    obtain ⟨⟨hk1, hk2⟩, hle⟩ := hc
    have := K.eq_spec hk1
    subst this
    have := K.eq_spec hk2
    subst this
    cases h
    cases hy with
    | r _ _ _ _ _ _ h0 hx =>
    have hlen : ((es.drop off).take len).length = len := by simp; omega
    unfold RelRf at hx
    split at hx
    ·exact hx.elim
    ·rename_i hb; rw [hH.dead o hb] at ho; cases ho
    ·obtain ⟨rfl, rfl, a, rfl⟩ := hx
     exact ⟨_, by simpa using read_none (P := P) (w := w) (S := S) (k := k) a 0 true⟩
    ·rename_i blk base k3 hb
     obtain ⟨e1, cap, a, rfl, e2, e3, e4, e', n, e5, e6⟩ := hx
     subst e1
     obtain ⟨-, x, cells, e0, ho', hs, hw, hc⟩ := hH.live o blk base k3 hb
     rw [ho] at ho'
     cases ho'
     obtain ⟨-, c, hf, hr, -⟩ := hc
     rcases Nat.eq_zero_or_pos len with h0 | h0
     ·subst h0
      have : (es.drop off).take 0 = [] := by simp
      rw [this]
      exact ⟨_, read_none (some a) cap true⟩
     ·refine read_row (c := fun j => c (off + j)) (by rw [e2 (by omega)]) hlen.symm ?_ ?_
      ·intro j hj m hm
       have hj' : off + j < es.length := by omega
       have e7 : base + off * k3.size + j * k3.size + m = base + (off + j) * k3.size + m := by rw [Nat.add_mul]; omega
       rw [e7]
       exact ⟨cell_of_heap hw (hf _ hj' m hm).1, (hf _ hj' m hm).2⟩
      ·intro j hj
       have := hr (off + j) (by omega)
       simpa [List.getElem_drop, List.getElem_take] using this
    ·exact hx.elim
   ·cases h
  ·cases h
 ·rename_i x
  split at h
  ·rename_i hk
   have := K.eq_spec hk
   subst this
   cases h
   cases hy with
   | d _ _ hy =>
   cases hy with
   | s _ s hs =>
   subst hs
   refine ⟨s.data.toList.map fun b => .int .u8 b.toNat, ?_, ?_, by simp [bytesOf, K.size], ?_⟩
   ·simp [Builtin.lenOf, bytesOf]
   ·intro n hn w' _
    simp only [Builtin.firstCells, K.size, Nat.mul_one, Sem.run_pure]
    congr 1
    apply Array.ext'
    rw [Array.toList_map, ByteArray.data_extract, Array.toList_extract, List.extract_eq_take_drop]
    simp
   ·refine ⟨by simp [bytesOf, K.size], fun j _ => .int .u8 ((s.data.toList.getD j 0).toNat), ?_, ?_⟩
    ·intro j hj m hm
     have : m = 0 := by simp [K.size] at hm; exact hm
     subst this
     have hj' : j < s.data.toList.length := by simpa [bytesOf] using hj
     simp only [K.size, Nat.mul_one, Nat.add_zero]
     refine ⟨?_, rfl⟩
     rw [List.getElem?_map, List.getElem?_eq_getElem hj']
     simp [List.getD, List.getElem?_eq_getElem hj']
    ·intro j hj
     have hj' : j < s.data.toList.length := by simpa [bytesOf] using hj
     simp only [bytesOf, List.getElem_map, mkV, List.getD, List.getElem?_eq_getElem hj', Option.getD_some]
     exact .i _ _
  ·cases h
 ·cases h
theorem ERel.append {k : K} {es ys : List DV} {A A' : List Value} (h : ERel w S k es A) (hl : A.length = es.length * k.size) (h' : ERel w S k ys A') : ERel w S k (es ++ ys) (A ++ A') := by
 obtain ⟨h0, c, h1, h2⟩ := h
 obtain ⟨g0, c', g1, g2⟩ := h'
 refine ⟨by simp [Nat.add_mul]; omega, (fun j m => if j < es.length then c j m else c' (j - es.length) m), ?_, ?_⟩
 ·intro j hj m hm
  by_cases hje : j < es.length
  ·simp only [hje, if_true]
   have : j * k.size + m < A.length := by
    have : (j + 1) * k.size ≤ es.length * k.size := Nat.mul_le_mul_right _ hje
    rw [Nat.add_mul, Nat.one_mul] at this
    omega
   rw [List.getElem?_append_left this]
   exact h1 j hje m hm
  ·simp only [hje, if_false]
   have e : j * k.size + m = A.length + ((j - es.length) * k.size + m) := by
    rw [hl, Nat.sub_mul]
    have : es.length * k.size ≤ j * k.size := Nat.mul_le_mul_right _ (by omega)
    omega
   rw [e, List.getElem?_append_right (by omega), Nat.add_sub_cancel_left]
   refine g1 _ ?_ m hm
   rw [List.length_append] at hj
   omega
 ·intro j hj
  by_cases hje : j < es.length
  ·simp only [hje, if_true]
   rw [List.getElem_append_left hje]
   exact h2 j hje
  ·simp only [hje, if_false]
   rw [List.getElem_append_right (by omega)]
   exact g2 _ _
theorem ERel.pad {k : K} {es : List DV} {A A' : List Value} (h : ERel w S k es A) : ERel w S k es (A ++ A') := by
 obtain ⟨h0, c, h1, h2⟩ := h
 refine ⟨by rw [List.length_append]; omega, c, ?_, h2⟩
 intro j hj m hm
 have := h1 j hj m hm
 rw [List.getElem?_append_left]
 ·exact this
 ·exact (List.getElem?_eq_some_iff.1 this.1).1
theorem ERel.ext {w' : World} {S' : Stab} {k : K} {es : List DV} {A : List Value} (h : ERel w S k es A) (e : Ext B w S w' S') : ERel w' S' k es A := by
 obtain ⟨h0, c, h1, h2⟩ := h
 exact ⟨h0, c, h1, fun j hj => (h2 j hj).ext e⟩
theorem zeroCells_size (z : Array Value) (n : Nat) : (Builtin.zeroCells z n).size = n * z.size := by simp [Builtin.zeroCells]
theorem run_grow {ts : Array TypeId} {t u e : TypeId} {k : K} (h0 : ts[0]? = some t) (h1 : ts[1]? = some u) (ht : P.underlying t = some (.slice e)) (hk : kq P e = some k) (hu : (∃ e', P.underlying u = some (.slice e')) ∨ P.underlying u = some .string)
  {zv : Value} (hz : (P.info? e).bind (·.zero) = some zv) {base : Option Addr} {sLen sCap n : Nat} {uy : Value} {olds news : Array Value}
  (hlen : (Builtin.lenOf uy).run P w = .ok n w) (hold : (Builtin.firstCells k.size sLen (.slice base sLen sCap)).run P w.drew = .ok olds w.drew) (hnew : (Builtin.firstCells k.size n uy).run P w.drew = .ok news w.drew)
  (hg : sCap < sLen + n) (hb : (sLen + n) * P.bytesOf e ≤ 140737488355328) (hb0 : P.bytesOf e ≠ 0) (ty : TypeId) :
  ∃ newCap, sLen + n ≤ newCap ∧ (Builtin.append_ ts ty #[.slice base sLen sCap, uy]).run P w = .ok (.slice (some ⟨w.heap.size, 0, none⟩) (sLen + n) newCap) (w.drew.alloc (.cells (olds ++ news ++ Builtin.zeroCells zv.cells (newCap - (sLen + n))) e)) := by
 obtain ⟨i, hi, hz'⟩ := Option.bind_eq_some_iff.1 hz
 have hbi : P.bytesOf e = i.bytes := by simp [Program.bytesOf, hi]
 have hki : i.size = k.size := by rw [← kq_size hk]; simp [Program.cellsOf, hi]
 rw [hbi] at hb hb0
 have hn : ¬ (sLen + n ≤ sCap) := by omega
 have h48 := growslice_fits hg hb
 have h48' : ¬ (281474976710656 < Builtin.nextslicecap (sLen + n) sCap * i.bytes) := by omega
 refine ⟨grownCap w (sLen + n) sCap e, ?_, ?_⟩
 ·simp only [grownCap, Question.cut]; omega
 ·rcases hu with ⟨e', hu⟩ | hu
  ·simp [Builtin.append_, h0, h1, run_und ht, run_und hu, sizeOf, typeInfo, zeroValue, hi, hz', hki, hlen, hn, hb0, h48', Question.forced, hold, hnew, newRow, grownCap]
  ·simp [Builtin.append_, h0, h1, run_und ht, run_und hu, sizeOf, typeInfo, zeroValue, hi, hz', hki, hlen, hn, hb0, h48', Question.forced, hold, hnew, newRow, grownCap]
theorem run_room {ts : Array TypeId} {t u e : TypeId} {k : K} (h0 : ts[0]? = some t) (h1 : ts[1]? = some u) (ht : P.underlying t = some (.slice e)) (hk : kq P e = some k) (hu : (∃ e', P.underlying u = some (.slice e')) ∨ P.underlying u = some .string)
  {base : Option Addr} {sLen sCap n : Nat} {uy : Value} {news : Array Value} {w' : World}
  (hlen : (Builtin.lenOf uy).run P w = .ok n w) (hnew : (Builtin.firstCells k.size n uy).run P w = .ok news w) (hst : (match base with | some a => storeCells (a.add (sLen * k.size)) news.toList | none => pure ()).run P w = .ok () w')
  (hg : sLen + n ≤ sCap) (ty : TypeId) :
  (Builtin.append_ ts ty #[.slice base sLen sCap, uy]).run P w = .ok (.slice base (sLen + n) sCap) w' := by
 have hki := run_sizeK hk
 rcases hu with ⟨e', hu⟩ | hu
 ·cases base with
  | none =>
   simp at hst
   subst hst
   simp [Builtin.append_, h0, h1, run_und ht, run_und hu, hki, hlen, hg, hnew]
  | some a =>
   simp at hst
   simp [Builtin.append_, h0, h1, run_und ht, run_und hu, hki, hlen, hg, hnew, hst]
 ·cases base with
  | none =>
   simp at hst
   subst hst
   simp [Builtin.append_, h0, h1, run_und ht, run_und hu, hki, hlen, hg, hnew]
  | some a =>
   simp at hst
   simp [Builtin.append_, h0, h1, run_und ht, run_und hu, hki, hlen, hg, hnew, hst]
theorem hok_kill (hH : HOK C B w S β H) (o : Nat) (hlt : o < H.length) : HOK C B w S (upd β o .dead) (H.put o none) ∧ (β o ≠ .pend → Later β (upd β o .dead)) := by
 have hl : ∀ p, upd β o .dead p = β p ∨ upd β o .dead p = .dead := fun p => by
  by_cases h : p = o
  ·subst h; exact .inr (upd_same _ _ _)
  ·exact .inl (upd_ne h)
 have hat : ∀ p blk base k, upd β o .dead p = .at blk base k → p ≠ o ∧ β p = .at blk base k := fun p blk base k h => by
  by_cases hp : p = o
  ·subst hp; rw [upd_same] at h; cases h
  ·rw [upd_ne hp] at h; exact ⟨hp, h⟩
 have hlat : Later β (upd β o .dead) := fun p => (hl p).elim .inl (fun h => .inr (.inl h))
 have hsp := spf hH (β' := upd β o .dead) (H' := H.put o none) (Ext.refl B w S) (fun _ _ _ h => (upd_sp (by simp) h).2) (fun _ _ _ h => obj_put_ne (fun h' => (upd_sp (by simp) h).1 h'.symm)) (fun _ _ _ _ => rfl)
 refine ⟨⟨?_, ?_, ?_, ?_, ?_, hsp.1, hsp.2⟩, fun _ => hlat⟩
 ·intro p blk base k h
  obtain ⟨h1, h2⟩ := hat p blk base k h
  obtain ⟨a1, x, cells, e, a2, a3, a4, a5⟩ := hH.live p blk base k h2
  exact ⟨a1, x, cells, e, by rw [obj_put_ne (fun h => h1 h.symm)]; exact a2, a3, a4, a5.ext (Ext.refl B w S) hlat (fun _ h => h)⟩
 ·intro p h
  by_cases hp : p = o
  ·subst hp; exact obj_put_same hlt
  ·rw [upd_ne hp] at h
   rw [obj_put_ne (fun h => hp h.symm)]; exact hH.dead p h
 ·intro p h
  have hp : p ≠ o := fun hp => by subst hp; rw [upd_same] at h; cases h
  rw [upd_ne hp] at h
  rw [obj_put_ne (fun h => hp h.symm)]; exact hH.virt p h
 ·intro p p' blk base k base' k' h1 h2
  exact hH.inj p p' blk base k base' k' (hat _ _ _ _ h1).2 (hat _ _ _ _ h2).2
 ·intro p h
  rw [put_length] at h
  rw [upd_ne (by omega)]; exact hH.out p h
theorem hok_virt (hH : HOK C B w S β H) {id : Nat} (hp : β id = .pend) (hlt : id < H.length) (k : K) (ro : Nat) : HOK C B w S (upd β id .virt) (H.put id (some (.sl k ro []))) ∧ Later β (upd β id .virt) := by
 have hlat := later_upd (x := BO.virt) hp
 have hat : ∀ p blk base k, upd β id .virt p = .at blk base k → p ≠ id ∧ β p = .at blk base k := fun p blk base k h => by
  by_cases hp : p = id
  ·subst hp; rw [upd_same] at h; cases h
  ·rw [upd_ne hp] at h; exact ⟨hp, h⟩
 have hsp := spf hH (β' := upd β id .virt) (H' := H.put id (some (.sl k ro []))) (Ext.refl B w S) (fun _ _ _ h => (upd_sp (by simp) h).2) (fun _ _ _ h => obj_put_ne (fun h' => (upd_sp (by simp) h).1 h'.symm)) (fun _ _ _ _ => rfl)
 refine ⟨⟨?_, ?_, ?_, ?_, ?_, hsp.1, hsp.2⟩, hlat⟩
 ·intro p blk base k h
  obtain ⟨h1, h2⟩ := hat p blk base k h
  obtain ⟨a1, x, cells, e, a2, a3, a4, a5⟩ := hH.live p blk base k h2
  exact ⟨a1, x, cells, e, by rw [obj_put_ne (fun h => h1 h.symm)]; exact a2, a3, a4, a5.ext (Ext.refl B w S) hlat (fun _ h => h)⟩
 ·intro p h
  have hp : p ≠ id := fun hp => by subst hp; rw [upd_same] at h; cases h
  rw [upd_ne hp] at h
  rw [obj_put_ne (fun h => hp h.symm)]; exact hH.dead p h
 ·intro p h
  by_cases hp : p = id
  ·subst hp; exact ⟨k, ro, obj_put_same hlt⟩
  ·rw [upd_ne hp] at h
   rw [obj_put_ne (fun h => hp h.symm)]; exact hH.virt p h
 ·intro p p' blk base k base' k' h1 h2
  exact hH.inj p p' blk base k base' k' (hat _ _ _ _ h1).2 (hat _ _ _ _ h2).2
 ·intro p h
  rw [put_length] at h
  rw [upd_ne (by omega)]; exact hH.out p h
theorem hok_move (hH : HOK C B w S β H) {o id blk base base' : Nat} {k : K} (hb : β o = .at blk base k) (hp : β id = .pend) (hlt : id < H.length) (hne : id ≠ o) {cells cells' : Array Value} {e : TypeId} (hw : w.heap[blk]? = some (.cells cells e (0, 0))) (hsz : cells'.size = cells.size)
  (hS : ∀ j, S blk j → cells'[j]? = cells[j]?) {x : Obj} (hc : ∀ β', Later β β' → OCells C (w.setRow blk cells') S β' cells' blk base' x) :
  HOK C B (w.setRow blk cells') S (upd (upd β o .dead) id (.at blk base' x.shape)) ((H.put o none).put id (some x)) ∧ Later β (upd (upd β o .dead) id (.at blk base' x.shape)) := by
 have hB := (hH.live o blk base k hb).1
 have hext := write_ext (S := S) hB hw hsz hS
 have holt : o < H.length := by
  obtain ⟨-, x0, -, -, ho, -⟩ := hH.live o blk base k hb
  exact obj_lt ho
 have hl1 : Later β (upd β o .dead) := fun p => by
  by_cases h : p = o
  ·subst h; exact .inr (.inl (upd_same _ _ _))
  ·exact .inl (upd_ne h)
 have hlat : Later β (upd (upd β o .dead) id (.at blk base' x.shape)) := hl1.trans (later_upd (by rw [upd_ne hne]; exact hp))
 have hat : ∀ p blk1 base1 k1, upd (upd β o .dead) id (.at blk base' x.shape) p = .at blk1 base1 k1 → (p = id ∧ blk1 = blk ∧ base1 = base' ∧ k1 = x.shape) ∨ (p ≠ id ∧ p ≠ o ∧ β p = .at blk1 base1 k1) := by
  intro p blk1 base1 k1 h
  by_cases h1 : p = id
  ·subst h1; rw [upd_same] at h; cases h; exact .inl ⟨rfl, rfl, rfl, rfl⟩
  ·rw [upd_ne h1] at h
   by_cases h2 : p = o
   ·subst h2; rw [upd_same] at h; cases h
   ·rw [upd_ne h2] at h; exact .inr ⟨h1, h2, h⟩
 have hsp := spf hH (β' := upd (upd β o .dead) id (.at blk base' x.shape)) (H' := (H.put o none).put id (some x)) hext (fun _ _ _ h => (upd_sp (by simp) (upd_sp (by simp) h).2).2)
  (fun _ _ _ h => by rw [obj_put_ne (fun h' => (upd_sp (by simp) h).1 h'.symm), obj_put_ne (fun h' => (upd_sp (by simp) (upd_sp (by simp) h).2).1 h'.symm)]) (fun o' blk' _ h => setRow_other w blk blk' cells' (hH.spne h hw))
 refine ⟨⟨?_, ?_, ?_, ?_, ?_, hsp.1, hsp.2⟩, hlat⟩
 ·intro p blk1 base1 k1 h
  rcases hat p blk1 base1 k1 h with ⟨rfl, rfl, rfl, rfl⟩ | ⟨h1, h2, h3⟩
  ·exact ⟨hB, x, cells', e, obj_put_same (by rw [put_length]; exact hlt), rfl, setRow_heap w _ cells cells' e (0, 0) hw, hc _ hlat⟩
  ·have hnb : blk1 ≠ blk := fun hq => h2 (hH.inj p o blk1 base1 k1 base k h3 (hq ▸ hb))
   obtain ⟨a1, x0, c0, e0, a2, a3, a4, a5⟩ := hH.live p blk1 base1 k1 h3
   exact ⟨a1, x0, c0, e0, by rw [obj_put_ne (fun h => h1 h.symm), obj_put_ne (fun h => h2 h.symm)]; exact a2, a3, by rw [setRow_other w blk blk1 cells' hnb]; exact a4, a5.ext hext hlat (fun _ h => h)⟩
 ·intro p h
  have h1 : p ≠ id := fun h1 => by subst h1; rw [upd_same] at h; cases h
  rw [upd_ne h1] at h
  rw [obj_put_ne (fun h => h1 h.symm)]
  by_cases h2 : p = o
  ·subst h2; exact obj_put_same holt
  ·rw [upd_ne h2] at h
   rw [obj_put_ne (fun h => h2 h.symm)]; exact hH.dead p h
 ·intro p h
  have h1 : p ≠ id := fun h1 => by subst h1; rw [upd_same] at h; cases h
  rw [upd_ne h1] at h
  have h2 : p ≠ o := fun h2 => by subst h2; rw [upd_same] at h; cases h
  rw [upd_ne h2] at h
  rw [obj_put_ne (fun h => h1 h.symm), obj_put_ne (fun h => h2 h.symm)]; exact hH.virt p h
 ·intro p p' blk1 base1 k1 base2 k2 h1 h2
  rcases hat _ _ _ _ h1 with ⟨rfl, rfl, rfl, rfl⟩ | ⟨a1, a2, a3⟩
  ·rcases hat _ _ _ _ h2 with ⟨rfl, -, -, -⟩ | ⟨b1, b2, b3⟩
   ·rfl
   ·exact absurd (hH.inj p' o _ _ _ _ _ b3 hb) b2
  ·rcases hat _ _ _ _ h2 with ⟨rfl, rfl, rfl, rfl⟩ | ⟨b1, b2, b3⟩
   ·exact absurd (hH.inj p o _ _ _ _ _ a3 hb) a2
   ·exact hH.inj p p' blk1 base1 k1 base2 k2 a3 b3
 ·intro p h
  rw [put_length, put_length] at h
  have h1 : p ≠ id := by omega
  have h2 : p ≠ o := by omega
  rw [upd_ne h1, upd_ne h2]; exact hH.out p h
def Leaves (C : Cx) (B : Nat) (w : World) (S : Stab) (β : Pl) (H : Heap) (id : Nat) (v : PV) (H' : Heap) (u : Value) (w' : World) : Prop :=
 ∃ S' β', Ext B w S w' S' ∧ Swf w' S' ∧ HOK C B w' S' β' H' ∧ Later β β' ∧ RelV C w' S' β' v u ∧ H'.length = H.length ∧ Kp H.length id β β'
theorem grow_leaves (hH : HOK C B w S β H) (hS : Swf w S) (hB : B ≤ w.heap.size) {id : Nat} (hp : β id = .pend) (hlt : id < H.length) {k : K} {es ys : List DV} {A A' : List Value} {e : TypeId} {zv : Value} (hzs : zv.cells.size = k.size)
  (h1 : ERel w S k es A) (hl1 : A.length = es.length * k.size) (h2 : ERel w S k ys A') (hl2 : A'.length = ys.length * k.size) {newCap : Nat} (hc : es.length + ys.length ≤ newCap) (ro : Nat) :
  Leaves C B w S β H id (.r id k 0 (es.length + ys.length) false) (H.put id (some (.sl k ro (es ++ ys)))) (.slice (some ⟨w.heap.size, 0, none⟩) (es.length + ys.length) newCap)
   (w.drew.alloc (.cells (A.toArray ++ A'.toArray ++ Builtin.zeroCells zv.cells (newCap - (es.length + ys.length))) e)) := by
 have hr := ((h1.append hl1 h2).ext (drew_ext (B := B))).pad (A' := (Builtin.zeroCells zv.cells (newCap - (es.length + ys.length))).toList)
 have hS' : Swf w.drew S := hS.ext (drew_ext (B := B))
 obtain ⟨a1, a2, a3, a4⟩ := new_row_at hH.drew hS' hB hp hlt hr e ro (len := es.length + ys.length) (cap := newCap) (tt := false) (by
  have := zeroCells_size zv.cells (newCap - (es.length + ys.length))
  rw [hzs] at this
  simp only [List.length_append, Array.length_toList, this, hl1, hl2]
  rw [← Nat.add_mul, ← Nat.add_mul]
  exact Nat.mul_le_mul_right _ (by omega)) hc (fun h => by cases h)
 have e1 : (A ++ A' ++ (Builtin.zeroCells zv.cells (newCap - (es.length + ys.length))).toList).toArray = A.toArray ++ A'.toArray ++ Builtin.zeroCells zv.cells (newCap - (es.length + ys.length)) := by
  apply Array.ext'; simp
 rw [e1] at a1 a2 a4
 exact ⟨S, _, (drew_ext (B := B)).trans a1, hS'.ext a1, a2, a3, a4, put_length _ _ _, kp_upd _ _ _ _⟩
theorem Reads.drew {k : K} {ys : List DV} {u : Value} {A : List Value} (h : Reads P w S k ys u A) : (Builtin.firstCells k.size ys.length u).run P w.drew = .ok A.toArray w.drew := by
 have := h.cells ys.length (Nat.le_refl _) w.drew rfl
 rw [← h.size, List.take_length] at this
 exact this
theorem Reads.here {k : K} {ys : List DV} {u : Value} {A : List Value} (h : Reads P w S k ys u A) : (Builtin.firstCells k.size ys.length u).run P w = .ok A.toArray w := by
 have := h.cells ys.length (Nat.le_refl _) w rfl
 rw [← h.size, List.take_length] at this
 exact this
theorem appA_sound (hH : HOK C B w S β H) (hS : Swf w S) (hB : B ≤ w.heap.size) {id : Nat} (hp : β id = .pend) (hlt : id < H.length)
  {ts : Array TypeId} {t u e : TypeId} {k : K} (h0 : ts[0]? = some t) (h1 : ts[1]? = some u) (ht : P.underlying t = some (.slice e)) (hk : kq P e = some k) (hu : (∃ e', P.underlying u = some (.slice e')) ∨ P.underlying u = some .string)
  {z : DV} (hz : zq P e = some z) (hb0 : P.bytesOf e ≠ 0) (ty : TypeId) {x y v : PV} {ux uy : Value} (hx : RelV C w S β x ux) (hy : RelV C w S β y uy) {H' : Heap} (h : appA H id k (P.bytesOf e) x y = some (v, H')) :
  ∃ ur w', (Builtin.append_ ts ty #[ux, uy]).run P w = .ok ur w' ∧ Leaves C B w S β H id v H' ur w' := by
 obtain ⟨kz, zv, hkz, hzv, hfz, hrz⟩ := zq_rel hz
 have hzs : zv.cells.size = k.size := by
  have := (zero_crel (C := C) (w := w) (S := S) (β := β) hfz hrz).2
  rw [hk] at hkz; cases hkz
  exact this
 have stays : RelV C w S β x ux → Leaves C B w S β H id x H ux w := fun hx => ⟨S, β, Ext.refl _ _ _, hS, hH, Later.refl _, hx, rfl, Kp.refl _ _ _⟩
 unfold appA at h
 split at h
 ·cases h
 ·rename_i ys hys
  obtain ⟨Ay, hry⟩ := elemsA_sound (P := P) hH hy hys
  split at h
  ·rename_i k' es tt
   split at h
   ·rename_i htt
    split at h
    ·rename_i hbound
     have hxx := hx
     cases hxx with
     | d _ _ hx' =>
     cases hx' with
     | l _ _ _ a cap blk off c c1 c2 c3 c4 c5 =>
     have hcap := c2 htt
     subst hcap
     have grow : ∀ Ax, Reads P w S k es (.slice a es.length es.length) Ax → 0 < ys.length → ∃ ur w', (Builtin.append_ ts ty #[.slice a es.length es.length, uy]).run P w = .ok ur w' ∧
       Leaves C B w S β H id (.r id k 0 (es.length + ys.length) false) (H.put id (some (.sl k 0 (es ++ ys)))) ur w' := by
      intro Ax hrx hpos
      obtain ⟨nc, g1, g2⟩ := run_grow h0 h1 ht hk hu hzv hry.len hrx.drew hry.drew (by omega) (by simpa using hbound) hb0 ty
      exact ⟨_, _, g2, grow_leaves hH hS hB hp hlt hzs hrx.rel hrx.size hry.rel hry.size g1 0⟩
     split at h
     ·cases h
      have hrx := read_none (P := P) (w := w) (S := S) (k := k) a 0 true
      cases hyl : ys with
      | nil =>
       subst hyl
       have hr := run_room (w' := w) h0 h1 ht hk hu (base := a) (sLen := 0) (sCap := 0) hry.len hry.here (by
        have hA : Ay = [] := by have := hry.size; simpa using this
        subst hA
        cases a <;> simp [storeCells]) (by simp) ty
       simp only [List.length_nil, Nat.add_zero] at hr ⊢
       obtain ⟨v1, v2⟩ := hok_virt hH hp hlt k 0
       refine ⟨_, _, hr, S, _, Ext.refl _ _ _, hS, v1, v2, .r _ _ _ _ _ _ rfl ?_, put_length _ _ _, kp_upd _ _ _ _⟩
       unfold RelRf
       rw [upd_same]
       exact ⟨rfl, rfl, a, rfl⟩
      | cons y0 yr =>
       rw [← hyl]
       have := grow [] hrx (by rw [hyl]; simp)
       simpa using this
     ·rename_i e0 er
      split at h
      ·rename_i hke
       have := K.eq_spec hke
       subst this
       split at h
       ·cases h
        have hr := run_room (w' := w) h0 h1 ht hk hu (base := a) (sLen := (e0 :: er).length) (sCap := (e0 :: er).length) hry.len hry.here (by
         have hA : Ay = [] := by have := hry.size; simpa using this
         subst hA
         cases a <;> simp [storeCells]) (by simp) ty
        exact ⟨_, _, by simpa using hr, stays hx⟩
       ·cases h
        obtain ⟨Ax, hrx⟩ := elemsA_sound (P := P) hH (k := k) (y := .d (.l k (e0 :: er) tt)) (ys := e0 :: er) hx (by simp [elemsA, show K.eq k k = true from hke])
        exact grow Ax hrx (by simp)
      ·cases h
    ·cases h
   ·cases h
  ·rename_i o k' off len tt
   split at h
   ·rename_i k'' ro es ho
    split at h
    ·rename_i hcnd
     simp only [Bool.and_eq_true, decide_eq_true_eq] at hcnd
     obtain ⟨⟨⟨hk1, hk2⟩, hle⟩, hbound⟩ := hcnd
     have := K.eq_spec hk1
     subst this
     have := K.eq_spec hk2
     subst this
     have hpl : ((es.drop off).take len).length = len := by simp; omega
     obtain ⟨Ax, hrx⟩ := elemsA_sound (P := P) hH (k := k) (y := .r o k off len tt) (ys := (es.drop off).take len) hx (by simp [elemsA, ho, hle, show K.eq k k = true from hk1])
     have holt := obj_lt ho
     cases hx with
     | r _ _ _ _ _ _ hfx hxr =>
     split at h
     ·
      rename_i htt
      split at h
      ·cases h
       have hsl : ∃ a cap, ux = .slice a len cap ∧ len ≤ cap := by
        unfold RelRf at hxr
        split at hxr
        ·exact hxr.elim
        ·rename_i hb; rw [hH.dead o hb] at ho; cases ho
        ·obtain ⟨-, rfl, a, rfl⟩ := hxr; exact ⟨_, _, rfl, Nat.le_refl _⟩
        ·obtain ⟨-, cap, a, rfl, -, h3, -⟩ := hxr; exact ⟨_, _, rfl, h3⟩
        ·exact hxr.elim
       obtain ⟨a, cap, rfl, hlc⟩ := hsl
       have hr := run_room (w' := w) h0 h1 ht hk hu (base := a) (sLen := len) (sCap := cap) hry.len hry.here (by
        have hA : Ay = [] := by have := hry.size; simpa using this
        subst hA
        cases a <;> simp [storeCells]) (by simpa using hlc) ty
       exact ⟨_, _, by simpa using hr, stays (.r _ _ _ _ _ _ hfx hxr)⟩
      ·cases h
       have hsl : ∃ a, ux = .slice a len len := by
        unfold RelRf at hxr
        split at hxr
        ·exact hxr.elim
        ·rename_i hb; rw [hH.dead o hb] at ho; cases ho
        ·obtain ⟨-, rfl, a, rfl⟩ := hxr; exact ⟨_, rfl⟩
        ·obtain ⟨-, cap, a, rfl, -, h3, h4, -⟩ := hxr; have := h4 htt; subst this; exact ⟨_, rfl⟩
        ·exact hxr.elim
       obtain ⟨a, rfl⟩ := hsl
       have hd := hrx.drew
       rw [hpl] at hd
       obtain ⟨nc, g1, g2⟩ := run_grow h0 h1 ht hk hu hzv hry.len hd hry.drew (by simp) (by simpa using hbound) hb0 ty
       have := grow_leaves (e := e) hH hS hB hp hlt hzs hrx.rel hrx.size hry.rel hry.size (newCap := nc) (by rw [hpl]; exact g1) 0
       rw [hpl] at this
       exact ⟨_, _, g2, this⟩
     ·split at h
      ·rename_i htt hro
       cases h
       have hne : id ≠ o := fun hq => by
        subst hq
        unfold RelRf at hxr
        rw [hp] at hxr
        exact hxr
       obtain ⟨hH1, hl1⟩ := hok_kill hH o holt
       have hnp : β o ≠ .pend := fun hq => by unfold RelRf at hxr; rw [hq] at hxr; exact hxr
       have hl1 := hl1 hnp
       have hp1 : upd β o .dead id = .pend := by rw [upd_ne hne]; exact hp
       have hlt1 : id < (H.put o none).length := by rw [put_length]; exact hlt
       have fin : ∀ {v : PV} {H2 : Heap} {ur : Value} {w' : World}, Leaves C B w S (upd β o .dead) (H.put o none) id v H2 ur w' → Leaves C B w S β H id v H2 ur w' := by
        rintro v H2 ur w' ⟨S', β', a1, a2, a3, a4, a5, a6, a7⟩
        rw [put_length] at a7
        exact ⟨S', β', a1, a2, a3, hl1.trans a4, a5, by rw [a6, put_length], (kp_kill _ _ hnp _).trans a7⟩
       have grow : ∀ (a : Option Addr) (cap : Nat), ux = .slice a len cap → cap < len + ys.length → ∃ ur w', (Builtin.append_ ts ty #[ux, uy]).run P w = .ok ur w' ∧
         Leaves C B w S β H id (.r id k 0 (len + ys.length) false) ((H.put o none).put id (some (.sl k (ro - off) ((es.drop off).take len ++ ys)))) ur w' := by
        rintro a cap rfl hg
        have hd := hrx.drew
        rw [hpl] at hd
        obtain ⟨nc, g1, g2⟩ := run_grow h0 h1 ht hk hu hzv hry.len hd hry.drew hg (by simpa using hbound) hb0 ty
        have := grow_leaves (e := e) hH1 hS hB hp1 hlt1 hzs hrx.rel hrx.size hry.rel hry.size (newCap := nc) (by rw [hpl]; exact g1) (ro - off)
        rw [hpl] at this
        exact ⟨_, _, g2, fin this⟩
       have hxr' := hxr
       unfold RelRf at hxr'
       split at hxr'
       ·exact hxr'.elim
       ·rename_i hb; rw [hH.dead o hb] at ho; cases ho
       ·rename_i hb
        obtain ⟨rfl, rfl, a, rfl⟩ := hxr'
        cases hyl : ys with
        | nil =>
         subst hyl
         have hr := run_room (w' := w) h0 h1 ht hk hu (base := a) (sLen := 0) (sCap := 0) hry.len hry.here (by
          have hA : Ay = [] := by have := hry.size; simpa using this
          subst hA
          cases a <;> simp [storeCells]) (by simp) ty
         obtain ⟨k0, ro0, hv⟩ := hH.virt o hb
         rw [ho] at hv
         cases hv
         obtain ⟨v1, v2⟩ := hok_virt hH1 hp1 hlt1 k (ro - 0)
         refine ⟨_, _, hr, fin ⟨S, _, Ext.refl _ _ _, hS, by simpa using v1, v2, .r _ _ _ _ _ _ rfl ?_, put_length _ _ _, kp_upd _ _ _ _⟩⟩
         unfold RelRf
         rw [upd_same]
         exact ⟨rfl, rfl, a, rfl⟩
        | cons y0 yr =>
         rw [← hyl]
         exact grow a 0 rfl (by rw [hyl]; simp)
       ·rename_i blk base k3 hb
        obtain ⟨e1, cap, a, rfl, e2, e3, -, e', n, e5, e6⟩ := hxr'
        subst e1
        rcases Nat.lt_or_ge cap (len + ys.length) with hg | hg
        ·exact grow (some a) cap rfl hg
        ·obtain ⟨hBb, x', cells, e0, ho', hs, hw, hc⟩ := hH.live o blk base k3 hb
         rw [ho] at ho'
         cases ho'
         obtain ⟨hbs, c, hf, hr, hn⟩ := hc
         have hcs : n = cells.size := by
          unfold World.shape? at e5
          rw [hw] at e5
          cases e5; rfl
         subst hcs
         have hAl : Ay.length = ys.length * k3.size := hry.size
         have hT : base + off * k3.size + len * k3.size + Ay.length ≤ cells.size := by
          rw [hAl]
          have h3 : (off + len + ys.length) * k3.size ≤ (off + cap) * k3.size := Nat.mul_le_mul_right _ (by omega)
          rw [Nat.add_mul, Nat.add_mul] at h3
          omega
         have hsz : (putAt cells.toList (base + off * k3.size + len * k3.size) Ay).toArray.size = cells.size := by
          have := putAt_length (l := cells.toList) (c := base + off * k3.size + len * k3.size) (xs := Ay) (by simpa using hT)
          simpa using this
         have hget : ∀ j, (putAt cells.toList (base + off * k3.size + len * k3.size) Ay).toArray[j]? = if base + off * k3.size + len * k3.size ≤ j ∧ j < base + off * k3.size + len * k3.size + Ay.length then Ay[j - (base + off * k3.size + len * k3.size)]? else cells[j]? := by
          intro j
          have := putAt_get (l := cells.toList) (c := base + off * k3.size + len * k3.size) (xs := Ay) (by simpa using hT) j
          rw [List.getElem?_toArray, this]
          simp
         have hro3 : ro * k3.size ≤ (off + len) * k3.size := Nat.mul_le_mul_right _ hro
         rw [Nat.add_mul] at hro3
         have hkeep : ∀ j, S blk j → (putAt cells.toList (base + off * k3.size + len * k3.size) Ay).toArray[j]? = cells[j]? := by
          intro j hj
          rw [hget, if_neg]
          intro hc
          exact hn j (by omega) hj
         have hfl : ∀ v ∈ Ay, v.oneCell' = true := by
          intro v hv
          obtain ⟨x, hx, rfl⟩ := List.mem_iff_getElem.1 hv
          obtain ⟨-, cy, hcy, -⟩ := hry.rel
          rw [hAl] at hx
          have hk0 : 0 < k3.size := by
           rcases Nat.eq_zero_or_pos k3.size with h0 | h0
           ·rw [h0] at hx; omega
           ·exact h0
          have := hcy (x / k3.size) ((Nat.div_lt_iff_lt_mul hk0).2 hx) (x % k3.size) (Nat.mod_lt _ hk0)
          have e1 : x / k3.size * k3.size + x % k3.size = x := by rw [Nat.mul_comm]; exact Nat.div_add_mod x k3.size
          rw [e1, List.getElem?_eq_getElem (by omega), Option.some.injEq] at this
          rw [this.1]
          exact this.2
         have hst : (storeCells (a.add (len * k3.size)) Ay).run P w = .ok () (w.setRow blk (putAt cells.toList (base + off * k3.size + len * k3.size) Ay).toArray) := by
          rcases Nat.eq_zero_or_pos ys.length with h0 | h0
          ·have hA : Ay = [] := by
            have : Ay.length = 0 := by rw [hAl, h0, Nat.zero_mul]
            exact List.eq_nil_of_length_eq_zero this
           subst hA
           have e1 : (putAt cells.toList (base + off * k3.size + len * k3.size) ([] : List Value)).toArray = cells := by
            apply Array.ext'; simp [putAt]
           rw [e1, setRow_self w blk cells e0 (0, 0) hw]
           simp [storeCells]
          ·rw [e2 (by omega), add_at]
           have := run_storeCells_at P blk (base + off * k3.size + len * k3.size) e0 Ay 0 cells w hw (by simpa using hT) hfl
           simpa [putAt] using this
         have hrun := run_room (w' := w.setRow blk (putAt cells.toList (base + off * k3.size + len * k3.size) Ay).toArray) h0 h1 ht hk hu (base := some a) (sLen := len) (sCap := cap) hry.len hry.here (by simpa using hst) hg ty
         have hext := write_ext (S := S) (cells' := (putAt cells.toList (base + off * k3.size + len * k3.size) Ay).toArray) hBb hw hsz hkeep
         have hmv := hok_move (id := id) (base' := base + off * k3.size) hH hb hp hlt hne hw hsz hkeep (x := .sl k3 (ro - off) ((es.drop off).take len ++ ys)) (by
          intro β' hβ'
          obtain ⟨-, cy, hcy, hry'⟩ := hry.rel
          refine ⟨?_, (fun j m => if j < len then c (off + j) m else cy (j - len) m), ?_, ?_, ?_⟩
          ·rw [hsz, List.length_append, hpl, Nat.add_mul]
           omega
          ·intro j hj m hm
           rw [List.length_append, hpl] at hj
           rw [hget]
           by_cases hjl : j < len
           ·simp only [hjl, if_true]
            have h3 : (j + 1) * k3.size ≤ len * k3.size := Nat.mul_le_mul_right _ hjl
            rw [Nat.add_mul, Nat.one_mul] at h3
            rw [if_neg (by omega)]
            have := hf (off + j) (by omega) m hm
            rw [Nat.add_mul] at this
            have e1 : base + off * k3.size + j * k3.size + m = base + (off * k3.size + j * k3.size) + m := by omega
            rw [e1]
            exact this
           ·simp only [hjl, if_false]
            have e1 : j * k3.size = len * k3.size + (j - len) * k3.size := by
             rw [← Nat.add_mul]; congr 1; omega
            have h3 : (j - len + 1) * k3.size ≤ ys.length * k3.size := Nat.mul_le_mul_right _ (by omega)
            rw [Nat.add_mul, Nat.one_mul] at h3
            rw [if_pos (by omega)]
            have := hcy (j - len) (by omega) m hm
            have e3 : base + off * k3.size + j * k3.size + m - (base + off * k3.size + len * k3.size) = (j - len) * k3.size + m := by omega
            rw [e3]
            exact this
          ·intro j hj
           rw [List.length_append, hpl] at hj
           by_cases hjl : j < len
           ·simp only [hjl, if_true]
            rw [List.getElem_append_left (by rw [hpl]; exact hjl)]
            have := (hr (off + j) (by omega)).ext hext
            simpa [List.getElem_drop, List.getElem_take] using this
           ·simp only [hjl, if_false]
            rw [List.getElem_append_right (by rw [hpl]; omega)]
            simp only [hpl]
            exact (hry' (j - len) (by omega)).ext hext
          ·intro j hj
           refine hn j ?_
           have h3 : ro * k3.size ≤ off * k3.size + (ro - off) * k3.size := by
            rw [← Nat.add_mul]; exact Nat.mul_le_mul_right _ (by omega)
           omega)
         refine ⟨_, _, hrun, S, _, hext, hS.ext hext, hmv.1, hmv.2, .r _ _ _ _ _ _ rfl ?_, by rw [put_length, put_length], (kp_kill _ _ hnp _).trans (kp_upd _ _ _ _)⟩
         unfold RelRf
         rw [upd_same]
         refine ⟨rfl, cap, a, rfl, fun h => by rw [e2 h]; simp, hg, (fun h => by cases h), e', cells.size, hext.shape _ _ _ e5, ?_⟩
         rw [Nat.add_mul] at e6
         simp only [Nat.zero_add]
         omega
       ·exact hxr'.elim
      ·cases h
    ·cases h
   ·cases h
  ·cases h
theorem mksl_sound (hH : HOK C B w S β H) (hS : Swf w S) (hB : B ≤ w.heap.size) {id : Nat} (hp : β id = .pend) (hlt : id < H.length) {t e : TypeId} {k : K} (ht : P.underlying t = some (.slice e)) (hk : kq P e = some k)
  {z : DV} (hz : zq P e = some z) (hb0 : P.bytesOf e ≠ 0) {x y : PV} {ux uy : Value} (hx : RelV C w S β x ux) (hy : RelV C w S β y uy) {n c : Int} (hn : asI x = some n) (hc : asI y = some c) (hcnd : 0 ≤ n ∧ n ≤ c ∧ c * P.bytesOf e ≤ 2 ^ 47) :
  ∃ ur w', (Instr.makeSlice t ux uy).run P w = .ok ur w' ∧ Leaves C B w S β H id (.r id k 0 n.toNat false) (H.put id (some (.sl k 0 (List.replicate n.toNat z)))) ur w' := by
 obtain ⟨kz, zv, hkz, hzv, hfz, hrz⟩ := zq_rel hz
 rw [hk] at hkz; cases hkz
 obtain ⟨i, hi, hz'⟩ := Option.bind_eq_some_iff.1 hzv
 have hbi : P.bytesOf e = i.bytes := by simp [Program.bytesOf, hi]
 obtain ⟨h1, h2, h3⟩ := hcnd
 rw [hbi] at h3 hb0
 obtain ⟨k1, rfl⟩ := asI_rel hx hn
 obtain ⟨k2, rfl⟩ := asI_rel hy hc
 have hb1 : (1 : Int) ≤ i.bytes := by omega
 have hc47 : c ≤ 2 ^ 47 := by
  have : c * 1 ≤ c * i.bytes := Int.mul_le_mul_of_nonneg_left hb1 (by omega)
  omega
 have hwrap : ∀ m : Int, 0 ≤ m → m ≤ 2 ^ 47 → IntKind.i64.wrap m = m := by
  intro m hm1 hm2
  have e1 : m % (2 ^ 64 : Int) = m := Int.emod_eq_of_lt hm1 (by omega)
  simp only [IntKind.wrap, IntKind.bits, e1]
  rw [if_neg]
  simp
  intro _
  omega
 have hzc := (zero_crel (C := C) (w := w) (S := S) (β := β) hfz hrz).2
 have hrow := zrow (w := w) (S := S) (n := c.toNat) hfz hrz (if c.toNat * k.size = 0 then #[] else zv.cells) (fun h => by rw [if_neg h])
 obtain ⟨q0, cf, q1, q2⟩ := hrow
 have hrow' : ERel w S k (List.replicate n.toNat z) ((Array.range (c.toNat * k.size)).map ((if c.toNat * k.size = 0 then #[] else zv.cells)[· % (if c.toNat * k.size = 0 then #[] else zv.cells).size]!)).toList := by
  refine ⟨?_, cf, ?_, ?_⟩
  ·simp only [List.length_replicate, Array.toList_map, Array.toList_range, List.length_map, List.length_range]
   exact Nat.mul_le_mul_right _ (by omega)
  ·intro j hj m hm
   rw [List.length_replicate] at hj
   exact q1 j (by rw [List.length_replicate]; omega) m hm
  ·intro j hj
   rw [List.length_replicate] at hj
   have := q2 j (by rw [List.length_replicate]; omega)
   rw [List.getElem_replicate] at this ⊢
   exact this
 obtain ⟨a1, a2, a3, a4⟩ := new_row_at hH hS hB hp hlt hrow' e 0 (len := n.toNat) (cap := c.toNat) (tt := false) (by simp) (by omega) (fun h => by cases h)
 refine ⟨_, _, ?_, S, _, a1, hS.ext a1, a2, a3, a4, put_length _ _ _, kp_upd _ _ _ _⟩
 have hbc : ¬ (i.bytes * c > (2 : Int) ^ 48) := by rw [Int.mul_comm]; omega
 have hki : i.size = k.size := by rw [← kq_size hk]; simp [Program.cellsOf, hi]
 have w1 := hwrap n h1 (by omega)
 have w2 := hwrap c (by omega) hc47
 by_cases h0 : c.toNat * k.size = 0
 ·simp [Instr.makeSlice, run_und ht, asInt, asIntOf, typeInfo, hi, w1, w2, sizeOf, hki, h0, newRow]
  rw [if_neg (by omega)]
  congr 3
  apply Array.ext'
  simp
 ·simp [Instr.makeSlice, run_und ht, asInt, asIntOf, typeInfo, hi, w1, w2, sizeOf, hki, h0, newRow, zeroValue, hz']
  rw [if_neg (by omega)]
  congr 3
  apply Array.ext'
  simp
end
end Go.Sim
end
section
open Go.RowKit
namespace Go.Sim
section
variable {P : Program} {N : Names} {C : Cx} {w : World} {S : Stab} {β : Pl} {B : Nat} {H : Heap}
theorem put_self {o : Nat} {x : Obj} (h : H.obj o = some x) : H.put o (some x) = H := by
 have hlt := obj_lt h
 unfold Heap.obj at h
 unfold Heap.put
 have : H[o]? = some (some x) := by
  split at h
  ·rename_i y hy; subst h; exact hy
  ·cases h
 obtain ⟨h1, h2⟩ := List.getElem?_eq_some_iff.1 this
 rw [← h2]; exact List.set_getElem_self h1
theorem reads_flat {k : K} {ys : List DV} {u : Value} {A : List Value} (h : Reads P w S k ys u A) : ∀ v ∈ A, v.oneCell' = true := by
 intro v hv
 obtain ⟨x, hx, rfl⟩ := List.mem_iff_getElem.1 hv
 obtain ⟨-, cy, hcy, -⟩ := h.rel
 have hAl := h.size
 rw [hAl] at hx
 have hk0 : 0 < k.size := by
  rcases Nat.eq_zero_or_pos k.size with h0 | h0
  ·rw [h0] at hx; omega
  ·exact h0
 have := hcy (x / k.size) ((Nat.div_lt_iff_lt_mul hk0).2 hx) (x % k.size) (Nat.mod_lt _ hk0)
 have e1 : x / k.size * k.size + x % k.size = x := by rw [Nat.mul_comm]; exact Nat.div_add_mod x k.size
 rw [e1, List.getElem?_eq_getElem (by omega), Option.some.injEq] at this
 rw [this.1]
 exact this.2
theorem copy_run {ts : Array TypeId} {t e : TypeId} {k : K} (h0 : ts[0]? = some t) (ht : P.underlying t = some (.slice e)) (hk : kq P e = some k) {base : Option Addr} {dl cap n m : Nat} {uy : Value} {news : Array Value} {w' : World}
  (hlen : (Builtin.lenOf uy).run P w = .ok m w) (hn : n = min m dl) (hnew : (Builtin.firstCells k.size n uy).run P w = .ok news w) (hst : (match base with | some a => storeCells a news.toList | none => pure ()).run P w = .ok () w') (ty : TypeId) :
  (Builtin.copy_ ts ty #[.slice base dl cap, uy]).run P w = .ok (.int .i64 n) w' := by
 have hki := run_sizeK hk
 have hn' : Nat.min m dl = n := hn.symm
 cases base with
 | none =>
  simp at hst
  subst hst
  simp [Builtin.copy_, h0, run_und ht, hki, hlen, hn', hnew, goInt]
 | some a =>
  simp at hst
  simp [Builtin.copy_, h0, run_und ht, hki, hlen, hn', hnew, hst, goInt]
theorem copyA_sound (hH : HOK C B w S β H) (hS : Swf w S) {ts : Array TypeId} {t e : TypeId} {k : K} (h0 : ts[0]? = some t) (ht : P.underlying t = some (.slice e)) (hk : kq P e = some k) {o off len ro : Nat} {tt : Bool} {es ys : List DV} {y : PV} {ux uy : Value}
  (hx : RelV C w S β (.r o k off len tt) ux) (ho : H.obj o = some (.sl k ro es)) (hle : off + len ≤ es.length) (hro : ro ≤ off) (hy : RelV C w S β y uy) (hys : elemsA H k y = some ys) (ty : TypeId) :
  ∃ w', (Builtin.copy_ ts ty #[ux, uy]).run P w = .ok (.int .i64 ((min ys.length len : Nat) : Int)) w' ∧ Ext B w S w' S ∧ Swf w' S ∧ HOK C B w' S β (H.put o (some (.sl k ro (putAt es off (ys.take (min ys.length len)))))) := by
 obtain ⟨A, hA⟩ := elemsA_sound (P := P) hH hy hys
 generalize hn : min ys.length len = n
 have hny : n ≤ ys.length := by omega
 have hnl : n ≤ len := by omega
 have hnew := hA.cells n hny w rfl
 cases hx with
 | r _ _ _ _ _ _ hfx hxr =>
 have hxr' := hxr
 unfold RelRf at hxr'
 split at hxr'
 ·exact hxr'.elim
 ·rename_i hb; rw [hH.dead o hb] at ho; cases ho
 ·rename_i hb
  obtain ⟨rfl, rfl, a, rfl⟩ := hxr'
  have hn0 : n = 0 := by omega
  subst hn0
  refine ⟨w, copy_run h0 ht hk hA.len (by omega) hnew (by cases a <;> simp [storeCells]) ty, Ext.refl _ _ _, hS, ?_⟩
  have : putAt es 0 (ys.take 0) = es := by simp [putAt]
  rw [this, put_self ho]
  exact hH
 ·rename_i blk base k3 hb
  obtain ⟨e1, cap, a, rfl, e2, e3, -, e', m, e5, e6⟩ := hxr'
  subst e1
  obtain ⟨hBb, x', cells, e0, ho', hs, hw, hc⟩ := hH.live o blk base k3 hb
  rw [ho] at ho'
  cases ho'
  obtain ⟨hbs, c, hf, hr, hnS⟩ := hc
  rcases Nat.eq_zero_or_pos n with h0n | h0n
  ·rw [h0n]
   rw [h0n] at hnew hn
   refine ⟨w, copy_run h0 ht hk hA.len hn.symm hnew (by simp [storeCells]) ty, Ext.refl _ _ _, hS, ?_⟩
   have : putAt es off (ys.take 0) = es := by simp [putAt]
   rw [this, put_self ho]
   exact hH
  ·have hcs : m = cells.size := by
    unfold World.shape? at e5
    rw [hw] at e5
    cases e5; rfl
   subst hcs
   have haddr := e2 (by omega)
   have hAl : (A.take (n * k3.size)).length = n * k3.size := by
    rw [List.length_take, hA.size]
    have := Nat.mul_le_mul_right k3.size hny
    omega
   have h3 : (off + n) * k3.size ≤ es.length * k3.size := Nat.mul_le_mul_right _ (by omega)
   rw [Nat.add_mul] at h3
   have hT : base + off * k3.size + (A.take (n * k3.size)).length ≤ cells.size := by rw [hAl]; omega
   have hsz : (putAt cells.toList (base + off * k3.size) (A.take (n * k3.size))).toArray.size = cells.size := by
    have := putAt_length (l := cells.toList) (c := base + off * k3.size) (xs := A.take (n * k3.size)) (by simpa using hT)
    simpa using this
   have hget : ∀ j, (putAt cells.toList (base + off * k3.size) (A.take (n * k3.size))).toArray[j]? = if base + off * k3.size ≤ j ∧ j < base + off * k3.size + n * k3.size then A[j - (base + off * k3.size)]? else cells[j]? := by
    intro j
    have := putAt_get (l := cells.toList) (c := base + off * k3.size) (xs := A.take (n * k3.size)) (by simpa using hT) j
    rw [List.getElem?_toArray, this, hAl]
    split
    ·rw [List.getElem?_take, if_pos (by omega)]
    ·simp
   have hro3 : ro * k3.size ≤ off * k3.size := Nat.mul_le_mul_right _ hro
   have hkeep : ∀ j, S blk j → (putAt cells.toList (base + off * k3.size) (A.take (n * k3.size))).toArray[j]? = cells[j]? := by
    intro j hj
    rw [hget, if_neg]
    intro hc
    exact hnS j (by omega) hj
   have hfl : ∀ v ∈ A.take (n * k3.size), v.oneCell' = true := fun v hv => reads_flat hA v (List.mem_of_mem_take hv)
   have hst : (storeCells a (A.take (n * k3.size))).run P w = .ok () (w.setRow blk (putAt cells.toList (base + off * k3.size) (A.take (n * k3.size))).toArray) := by
    rw [haddr]
    have := run_storeCells_at P blk (base + off * k3.size) e0 (A.take (n * k3.size)) 0 cells w hw (by simpa using hT) hfl
    simpa [putAt] using this
   have hext := write_ext (S := S) (cells' := (putAt cells.toList (base + off * k3.size) (A.take (n * k3.size))).toArray) hBb hw hsz hkeep
   refine ⟨_, copy_run h0 ht hk hA.len hn.symm hnew (by simpa using hst) ty, hext, hS.ext hext, ?_⟩
   obtain ⟨-, cy, hcy, hry'⟩ := hA.rel
   have hyl : (ys.take n).length = n := by rw [List.length_take]; omega
   have hel : (putAt es off (ys.take n)).length = es.length := putAt_length (by omega)
   refine write_hok hH hb hw hsz hkeep rfl ?_
   refine ⟨by rw [hsz, hel]; exact hbs, (fun j m => if off ≤ j ∧ j < off + n then cy (j - off) m else c j m), ?_, ?_, hnS⟩
   ·intro j hj m hm
    rw [hel] at hj
    rw [hget]
    by_cases hjl : off ≤ j ∧ j < off + n
    ·simp only [hjl, and_self, if_true]
     have e4 : j * k3.size = off * k3.size + (j - off) * k3.size := by rw [← Nat.add_mul]; congr 1; omega
     have h5 : (j - off + 1) * k3.size ≤ n * k3.size := Nat.mul_le_mul_right _ (by omega)
     rw [Nat.add_mul, Nat.one_mul] at h5
     rw [if_pos (by omega)]
     have := hcy (j - off) (by omega) m hm
     have e7 : base + j * k3.size + m - (base + off * k3.size) = (j - off) * k3.size + m := by omega
     rw [e7]
     exact this
    ·simp only [hjl, if_false]
     rw [if_neg ?_]
     ·exact hf j hj m hm
     ·intro hc
      rcases Nat.lt_or_ge j off with h7 | h7
      ·have : (j + 1) * k3.size ≤ off * k3.size := Nat.mul_le_mul_right _ h7
       rw [Nat.add_mul, Nat.one_mul] at this
       omega
      ·have h8 : off + n ≤ j := by omega
       have : (off + n) * k3.size ≤ j * k3.size := Nat.mul_le_mul_right _ h8
       rw [Nat.add_mul] at this
       omega
   ·intro j hj
    rw [hel] at hj
    have hg := putAt_get (l := es) (c := off) (xs := ys.take n) (by omega) j
    rw [hyl] at hg
    by_cases hjl : off ≤ j ∧ j < off + n
    ·simp only [hjl, and_self, if_true] at hg ⊢
     have e8 : (putAt es off (ys.take n))[j] = ys[j - off] := by
      have h9 := List.getElem?_eq_getElem (l := putAt es off (ys.take n)) (by rw [hel]; exact hj)
      rw [hg, List.getElem?_take, if_pos (by omega), List.getElem?_eq_getElem (by omega), Option.some.injEq] at h9
      exact h9.symm
     rw [e8]
     exact (hry' (j - off) (by omega)).ext hext
    ·simp only [hjl, if_false] at hg ⊢
     have e8 : (putAt es off (ys.take n))[j] = es[j] := by
      have h9 := List.getElem?_eq_getElem (l := putAt es off (ys.take n)) (by rw [hel]; exact hj)
      rw [hg, List.getElem?_eq_getElem hj, Option.some.injEq] at h9
      exact h9.symm
     rw [e8]
     exact (hr j hj).ext hext
 ·exact hxr'.elim
theorem clr_sound (hH : HOK C B w S β H) (hS : Swf w S) {ts : Array TypeId} {t e : TypeId} {k : K} (h0 : ts[0]? = some t) (ht : P.underlying t = some (.slice e)) (hk : kq P e = some k) {z : DV} (hz : zq P e = some z) {o off len ro : Nat} {tt : Bool} {es : List DV} {ux : Value}
  (hx : RelV C w S β (.r o k off len tt) ux) (ho : H.obj o = some (.sl k ro es)) (hle : off + len ≤ es.length) (hro : ro ≤ off) (ty : TypeId) :
  ∃ w', (Builtin.clear_ ts ty #[ux]).run P w = .ok (.tuple #[]) w' ∧ Ext B w S w' S ∧ Swf w' S ∧ HOK C B w' S β (H.put o (some (.sl k ro (putAt es off (List.replicate len z))))) := by
 obtain ⟨kz, zv, hkz, hzv, hfz, hrz⟩ := zq_rel hz
 rw [hk] at hkz; cases hkz
 have hzs : zv.cells.size = k.size := (zero_crel (C := C) (w := w) (S := S) (β := β) hfz hrz).2
 have hrun0 := run_zero (P := P) hzv w
 cases hx with
 | r _ _ _ _ _ _ hfx hxr =>
 have hxr' := hxr
 unfold RelRf at hxr'
 split at hxr'
 ·exact hxr'.elim
 ·rename_i hb; rw [hH.dead o hb] at ho; cases ho
 ·rename_i hb
  obtain ⟨rfl, rfl, a, rfl⟩ := hxr'
  refine ⟨w, ?_, Ext.refl _ _ _, hS, ?_⟩
  ·cases a <;> simp [Builtin.clear_, h0, run_und ht]
  ·have : putAt es 0 (List.replicate 0 z) = es := by simp [putAt]
   rw [this, put_self ho]
   exact hH
 ·rename_i blk base k3 hb
  obtain ⟨e1, cap, a, rfl, e2, e3, -, e', m, e5, e6⟩ := hxr'
  subst e1
  obtain ⟨hBb, x', cells, e0, ho', hs, hw, hc⟩ := hH.live o blk base k3 hb
  rw [ho] at ho'
  cases ho'
  obtain ⟨hbs, c, hf, hr, hnS⟩ := hc
  rcases Nat.eq_zero_or_pos len with h0n | h0n
  ·subst h0n
   refine ⟨w, ?_, Ext.refl _ _ _, hS, ?_⟩
   ·simp [Builtin.clear_, h0, run_und ht]
   ·have : putAt es off (List.replicate 0 z) = es := by simp [putAt]
    rw [this, put_self ho]
    exact hH
  ·have hcs : m = cells.size := by
    unfold World.shape? at e5
    rw [hw] at e5
    cases e5; rfl
   subst hcs
   have haddr := e2 (by omega)
   have hrow := zrow (w := w) (S := S) (n := len) hfz hrz zv.cells (fun _ => rfl)
   have hzc : ((Array.range (len * k3.size)).map (zv.cells[· % zv.cells.size]!)).toList = (Builtin.zeroCells zv.cells len).toList := by
    unfold Builtin.zeroCells; rw [hzs]
   rw [hzc] at hrow
   have hAl : (Builtin.zeroCells zv.cells len).toList.length = len * k3.size := by
    rw [Array.length_toList, zeroCells_size, hzs]
   generalize hA : (Builtin.zeroCells zv.cells len).toList = A at hrow hAl
   obtain ⟨-, cy, hcy, hry'⟩ := hrow
   simp only [List.length_replicate] at hcy hry'
   have h3 : (off + len) * k3.size ≤ es.length * k3.size := Nat.mul_le_mul_right _ (by omega)
   rw [Nat.add_mul] at h3
   have hT : base + off * k3.size + A.length ≤ cells.size := by rw [hAl]; omega
   have hsz : (putAt cells.toList (base + off * k3.size) A).toArray.size = cells.size := by
    have := putAt_length (l := cells.toList) (c := base + off * k3.size) (xs := A) (by simpa using hT)
    simpa using this
   have hget : ∀ j, (putAt cells.toList (base + off * k3.size) A).toArray[j]? = if base + off * k3.size ≤ j ∧ j < base + off * k3.size + len * k3.size then A[j - (base + off * k3.size)]? else cells[j]? := by
    intro j
    have := putAt_get (l := cells.toList) (c := base + off * k3.size) (xs := A) (by simpa using hT) j
    rw [List.getElem?_toArray, this, hAl]
    simp
   have hro3 : ro * k3.size ≤ off * k3.size := Nat.mul_le_mul_right _ hro
   have hkeep : ∀ j, S blk j → (putAt cells.toList (base + off * k3.size) A).toArray[j]? = cells[j]? := by
    intro j hj
    rw [hget, if_neg]
    intro hc
    exact hnS j (by omega) hj
   have hfl : ∀ v ∈ A, v.oneCell' = true := by
    intro v hv
    obtain ⟨x, hx, rfl⟩ := List.mem_iff_getElem.1 hv
    rw [hAl] at hx
    have hk0 : 0 < k3.size := by
     rcases Nat.eq_zero_or_pos k3.size with h0 | h0
     ·rw [h0] at hx; omega
     ·exact h0
    have := hcy (x / k3.size) ((Nat.div_lt_iff_lt_mul hk0).2 hx) (x % k3.size) (Nat.mod_lt _ hk0)
    have e1 : x / k3.size * k3.size + x % k3.size = x := by rw [Nat.mul_comm]; exact Nat.div_add_mod x k3.size
    rw [e1, List.getElem?_eq_getElem (by omega), Option.some.injEq] at this
    rw [this.1]
    exact this.2
   have hst : (storeCells a A).run P w = .ok () (w.setRow blk (putAt cells.toList (base + off * k3.size) A).toArray) := by
    rw [haddr]
    have := run_storeCells_at P blk (base + off * k3.size) e0 A 0 cells w hw (by simpa using hT) hfl
    simpa [putAt] using this
   have hext := write_ext (S := S) (cells' := (putAt cells.toList (base + off * k3.size) A).toArray) hBb hw hsz hkeep
   have hln : len ≠ 0 := by omega
   refine ⟨_, ?_, hext, hS.ext hext, ?_⟩
   ·obtain ⟨l', rfl⟩ : ∃ l', len = l' + 1 := ⟨len - 1, by omega⟩
    simp [Builtin.clear_, h0, run_und ht, hrun0, hA, hst]
   ·have hyl : (List.replicate len z).length = len := List.length_replicate
    have hel : (putAt es off (List.replicate len z)).length = es.length := putAt_length (by omega)
    refine write_hok hH hb hw hsz hkeep rfl ?_
    refine ⟨by rw [hsz, hel]; exact hbs, (fun j m => if off ≤ j ∧ j < off + len then cy (j - off) m else c j m), ?_, ?_, hnS⟩
    ·intro j hj m hm
     rw [hel] at hj
     rw [hget]
     by_cases hjl : off ≤ j ∧ j < off + len
     ·simp only [hjl, and_self, if_true]
      have e4 : j * k3.size = off * k3.size + (j - off) * k3.size := by rw [← Nat.add_mul]; congr 1; omega
      have h5 : (j - off + 1) * k3.size ≤ len * k3.size := Nat.mul_le_mul_right _ (by omega)
      rw [Nat.add_mul, Nat.one_mul] at h5
      rw [if_pos (by omega)]
      have := hcy (j - off) (by omega) m hm
      have e7 : base + j * k3.size + m - (base + off * k3.size) = (j - off) * k3.size + m := by omega
      rw [e7]
      exact this
     ·simp only [hjl, if_false]
      rw [if_neg ?_]
      ·exact hf j hj m hm
      ·intro hc
       rcases Nat.lt_or_ge j off with h7 | h7
       ·have : (j + 1) * k3.size ≤ off * k3.size := Nat.mul_le_mul_right _ h7
        rw [Nat.add_mul, Nat.one_mul] at this
        omega
       ·have h8 : off + len ≤ j := by omega
        have : (off + len) * k3.size ≤ j * k3.size := Nat.mul_le_mul_right _ h8
        rw [Nat.add_mul] at this
        omega
    ·intro j hj
     rw [hel] at hj
     have hg := putAt_get (l := es) (c := off) (xs := List.replicate len z) (by omega) j
     rw [hyl] at hg
     by_cases hjl : off ≤ j ∧ j < off + len
     ·simp only [hjl, and_self, if_true] at hg ⊢
      have e8 : (putAt es off (List.replicate len z))[j] = (List.replicate len z)[j - off]'(by simp; omega) := by
       have h9 := List.getElem?_eq_getElem (l := putAt es off (List.replicate len z)) (by rw [hel]; exact hj)
       rw [hg, List.getElem?_eq_getElem (by simp; omega), Option.some.injEq] at h9
       exact h9.symm
      rw [e8]
      exact (hry' (j - off) (by omega)).ext hext
     ·simp only [hjl, if_false] at hg ⊢
      have e8 : (putAt es off (List.replicate len z))[j] = es[j] := by
       have h9 := List.getElem?_eq_getElem (l := putAt es off (List.replicate len z)) (by rw [hel]; exact hj)
       rw [hg, List.getElem?_eq_getElem hj, Option.some.injEq] at h9
       exact h9.symm
      rw [e8]
      exact (hr j hj).ext hext
 ·exact hxr'.elim
end
end Go.Sim
end
section
open Go.RowKit
namespace Go.Sim
section
variable {P : Program} {N : Names} {C : Cx} {w : World} {S : Stab} {β : Pl} {B : Nat} {H : Heap}
def sub64E : Array Value → Sem Value := fun args => do
 let (x, y, b) ← Extern.MathBitsCarry.three "Sub64" args
 pure (Extern.MathBitsCarry.pair ((x + Extern.MathBitsCarry.m64 - y - b) % Extern.MathBitsCarry.m64) (if x < y + b then 1 else 0))
theorem run_sub64E (x y b : Nat) (hb : b ≤ 1) (w : World) : (sub64E #[.int .u64 x, .int .u64 y, .int .u64 b]).run P w =
   .ok (.tuple #[.int .u64 (((x + 18446744073709551616 - y - b) % 18446744073709551616 : Nat) : Int), .int .u64 ((if x < y + b then 1 else 0 : Nat) : Int)]) w := by
 have : b = 0 ∨ b = 1 := by omega
 rcases this with rfl | rfl <;> rfl
theorem find_add64 {fn : Func} (h : fn.name = "math/bits.Add64") (h0 : fn.origin = "") : Extern.findNext fn = none ∧ Extern.find fn = some add64Entry := by
 cases fn; dsimp only at h h0; subst h h0
 exact ⟨by kernel_rfl, by kernel_rfl⟩
theorem find_sub64 {fn : Func} (h : fn.name = "math/bits.Sub64") (h0 : fn.origin = "") : Extern.findNext fn = none ∧ Extern.find fn = some sub64E := by
 cases fn; dsimp only at h h0; subst h h0
 exact ⟨by kernel_rfl, by kernel_rfl⟩
theorem int_rel {k : IntKind} {n : Int} {u : Value} (h : RelV C w S β (.d (.i k n)) u) : u = .int k n := by
 cases h with
 | d _ _ h => cases h; rfl
theorem three_args {x y c : Int} {vs : List PV} {us : List Value} (hv : vs = [.d (.i .u64 x), .d (.i .u64 y), .d (.i .u64 c)]) (hl : vs.length = us.length) (hr : ∀ j (h : j < vs.length) (h' : j < us.length), RelV C w S β vs[j] us[j]) : us = [.int .u64 x, .int .u64 y, .int .u64 c] := by
 subst hv
 match us, hl with
 | [a, b, d], _ =>
  have h0 := hr 0 (by simp) (by simp)
  have h1 := hr 1 (by simp) (by simp)
  have h2 := hr 2 (by simp) (by simp)
  simp only [List.getElem_cons_zero, List.getElem_cons_succ] at h0 h1 h2
  rw [int_rel h0, int_rel h1, int_rel h2]
theorem two_res (a b : Int) : RelV C w S β (.t [.d (.i .u64 a), .d (.i .u64 b)]) (.tuple #[.int .u64 a, .int .u64 b]) := by
 refine .t _ [.int .u64 a, .int .u64 b] rfl fun j hj hj' => ?_
 match j, hj with
 | 0, _ => exact .d _ _ (.i _ _)
 | 1, _ => exact .d _ _ (.i _ _)
theorem prim_sound {p : Nat} {fn : Func} (hp : primNo fn.name fn.origin = some p) {f : FuncId} (hfn : P.funcs[f]? = some fn) (hb : fn.body.isNone = true) {vs : List PV} {us : List Value} (hl : vs.length = us.length) (hr : ∀ j (h : j < vs.length) (h' : j < us.length), RelV C w S β vs[j] us[j]) {v : PV} (h : primA p vs = some v) :
  ∃ u, (callFunc f us.toArray).run P w = .ok (.value u) w ∧ RelV C w S β v u := by
 unfold primNo at hp
 split at hp
 case isFalse => cases hp
 rename_i h0
 split at hp
 ·rename_i hn
  cases hp
  obtain ⟨e1, e2⟩ := find_add64 hn h0
  unfold primA at h
  split at h
  ·split at h
   ·rename_i x y c _ hc
    cases h
    obtain ⟨c1, c2, c3, c4⟩ := hc
    rw [three_args rfl hl hr]
    refine ⟨_, ?_, two_res _ _⟩
    have := run_callFunc_extern (P := P) hfn (by rw [hn]; decide) hb e1 e2 #[.int .u64 x, .int .u64 y, .int .u64 c] w
    rw [this, run_add64 x y c c1 c2 c3 c4]; rfl
   ·cases h
  ·rename_i heq; cases heq
  ·cases h
 ·split at hp
  case isFalse => cases hp
  rename_i hn
  cases hp
  obtain ⟨e1, e2⟩ := find_sub64 hn h0
  unfold primA at h
  split at h
  ·rename_i heq; cases heq
  ·split at h
   ·rename_i x y c _ hc
    cases h
    obtain ⟨c1, c2, c3, c4, c5⟩ := hc
    rw [three_args rfl hl hr]
    refine ⟨_, ?_, two_res _ _⟩
    obtain ⟨x, rfl⟩ := Int.eq_ofNat_of_zero_le c1
    obtain ⟨y, rfl⟩ := Int.eq_ofNat_of_zero_le c2
    obtain ⟨c, rfl⟩ := Int.eq_ofNat_of_zero_le c4
    have := run_callFunc_extern (P := P) hfn (by rw [hn]; decide) hb e1 e2 #[.int .u64 x, .int .u64 y, .int .u64 c] w
    rw [this, run_sub64E x y c (by omega)]
    simp only [Result.andThen]
    congr 6
    ·omega
    ·by_cases hlt : x < y + c
     ·rw [if_pos hlt, if_pos (by omega)]; rfl
     ·rw [if_neg hlt, if_neg (by omega)]; rfl
   ·cases h
  ·cases h
end
end Go.Sim
end
section
open Go.RowKit
namespace Go.Sim
def OwnedBy (w : World) (S : Stab) (k : K) (es : List DV) (v : Value) (B : Nat) : Prop :=
 (es = [] ∧ ∃ a, v = .slice a 0 0) ∨ ∃ blk off cap cells e, v = .slice (some ⟨blk, off, none⟩) es.length cap ∧ es.length ≤ cap ∧ B ≤ blk ∧ w.heap[blk]? = some (.cells cells e (0, 0)) ∧
  off + cap * k.size ≤ cells.size ∧ (∀ j, off ≤ j → ¬ S blk j) ∧ ERel w S k es (cells.toList.drop off)
def CallV (P : Program) (C : Cx) (N : Names) (G : Nat → Option (DV × K)) (f : Nat) (ds : List DV) (r : PV) (own : Bool) : Prop :=
 ∀ (w : World) (S : Stab) (us : List Value), Swf w S → GOK N G w S → ds.length = us.length → (∀ j (h : j < ds.length) (h' : j < us.length), RelD w S ds[j] us[j]) →
  Calls P (C.μ f) us.toArray w fun e w' => ∃ v S', e = .returned v ∧ Ext w.heap.size w S w' S' ∧ Swf w' S' ∧ (own = false → RelV C w' S' (fun _ => .pend) r v) ∧
   (own = true → ∃ k es, r = .d (.l k es false) ∧ OwnedBy w' S' k es v w.heap.size)
def CallR (P : Program) (C : Cx) (N : Names) (G : Nat → Option (DV × K)) (f : Nat) (args : List PV) (H : Heap) (r : PV) (H' : Heap) : Prop :=
 ∀ (B : Nat) (w : World) (S : Stab) (β : Pl) (us : List Value), B ≤ w.heap.size → Swf w S → GOK N G w S → HOK C B w S β H → args.length = us.length → (∀ j (h : j < args.length) (h' : j < us.length), RelV C w S β args[j] us[j]) →
  Calls P (C.μ f) us.toArray w fun e w' => ∃ v S' β', e = .returned v ∧ Ext B w S w' S' ∧ Swf w' S' ∧ HOK C B w' S' β' H' ∧ Later β β' ∧ RelV C w' S' β' r v ∧ H.length ≤ H'.length ∧ Kp H.length H.length β β'
def Lb (base : Nat) (β β' : Pl) : Prop := ∀ o, o < base → (β' o = β o ∨ β' o = .dead ∨ β o = .pend) ∧ (β o = .pend → β' o = .pend)
theorem Lb.refl (base : Nat) (β : Pl) : Lb base β β := fun _ _ => ⟨.inl rfl, fun h => h⟩
theorem Lb.trans {base : Nat} {β β' β'' : Pl} (h : Lb base β β') (k : Lb base β' β'') : Lb base β β'' := fun o ho => by
 refine ⟨?_, fun hp => (k o ho).2 ((h o ho).2 hp)⟩
 rcases (h o ho).1 with h1 | h1 | h1
 ·rcases (k o ho).1 with k1 | k1 | k1
  ·exact .inl (k1.trans h1)
  ·exact .inr (.inl k1)
  ·exact .inr (.inr (h1.symm.trans k1))
 ·rcases (k o ho).1 with k1 | k1 | k1
  ·exact .inr (.inl (k1.trans h1))
  ·exact .inr (.inl k1)
  ·rw [h1] at k1; cases k1
 ·exact .inr (.inr h1)
theorem Lb.mono {b b' : Nat} {β β' : Pl} (h : Lb b β β') (hb : b' ≤ b) : Lb b' β β' := fun o ho => h o (Nat.lt_of_lt_of_le ho hb)
def YOK (P : Program) (C : Cx) (N : Names) (G : Nat → Option (DV × K)) (Y : Nat → List PV → Heap → Option (PV × Heap)) (B : Nat) (w0 : World) (S0 : Stab) (β0 : Pl) (base : Nat) : Prop :=
 ∀ o args H r H', Y o args H = some (r, H') → H.obj o = some (.lp 0 none) ∧ ∀ (w : World) (S : Stab) (β : Pl) (us : List Value) (blk : Nat) (r0 : Loop), Ext B w0 S0 w S → Lb base β0 β → base ≤ H.length → B ≤ w.heap.size → Swf w S → GOK N G w S → HOK C B w S β H → β o = .sp blk (.loop r0) →
  args.length = us.length → (∀ j (h : j < args.length) (h' : j < us.length), RelV C w S β args[j] us[j]) → ∀ (F : Fence) (nf : Nat), (∀ f, F.fn f) → F.depth = none → F.alive = false → ∃ rr : Loop, w.heap[blk]? = some (.loop rr) ∧ us.length = rr.params.size ∧
   RoundIn F nf P blk rr.fn ((rr.params.zip us.toArray).foldl (fun tmps (t, a) => tmps.setIfInBounds t a) rr.tmps) rr.assign rr.body w fun e w' =>
    ∃ v S' β', e = .returned v ∧ Ext B w S w' S' ∧ Swf w' S' ∧ HOK C B w' S' β' H' ∧ Later β β' ∧ RelV C w' S' β' r v ∧ H.length ≤ H'.length ∧ Kp H.length H.length β β'
theorem YOK.later {P : Program} {C : Cx} {N : Names} {G : Nat → Option (DV × K)} {Y : Nat → List PV → Heap → Option (PV × Heap)} {B : Nat} {w0 w1 : World} {S0 S1 : Stab} {β0 β1 : Pl} {base : Nat} (h : YOK P C N G Y B w0 S0 β0 base)
  (e : Ext B w0 S0 w1 S1) (l : Lb base β0 β1) : YOK P C N G Y B w1 S1 β1 base := fun o args H r H' hy => by
 obtain ⟨h1, h2⟩ := h o args H r H' hy
 exact ⟨h1, fun w S β us blk r0 e1 l1 => h2 w S β us blk r0 (e.trans e1) (l.trans l1)⟩
theorem yok_no {P : Program} {C : Cx} {N : Names} {G : Nat → Option (DV × K)} {B : Nat} {w : World} {S : Stab} {β : Pl} {base : Nat} : YOK P C N G noY B w S β base := fun _ _ _ _ _ h => by cases h
def CallI (P : Program) (C : Cx) (N : Names) (G : Nat → Option (DV × K)) (Y : Nat → List PV → Heap → Option (PV × Heap)) (f : Nat) (args : List PV) (H : Heap) (r : PV) (H' : Heap) : Prop :=
 ∀ (B : Nat) (w : World) (S : Stab) (β : Pl) (us : List Value), B ≤ w.heap.size → Swf w S → GOK N G w S → HOK C B w S β H → args.length = us.length → (∀ j (h : j < args.length) (h' : j < us.length), RelV C w S β args[j] us[j]) → YOK P C N G Y B w S β H.length →
  Calls P (C.μ f) us.toArray w fun e w' => ∃ v S' β', e = .returned v ∧ Ext B w S w' S' ∧ Swf w' S' ∧ HOK C B w' S' β' H' ∧ Later β β' ∧ RelV C w' S' β' r v ∧ H.length ≤ H'.length ∧ Kp H.length H.length β β'
def CallD (P : Program) (C : Cx) (N : Names) (G : Nat → Option (DV × K)) (f : Nat) (args : List PV) (H : Heap) (r : PV) (H' : Heap) : Prop :=
 ∀ (B : Nat) (w : World) (S : Stab) (β : Pl) (us : List Value) (u : FrameMode) (nf : Nat), B ≤ w.heap.size → Swf w S → GOK N G w S → HOK C B w S β H → args.length = us.length → (∀ j (h : j < args.length) (h' : j < us.length), RelV C w S β args[j] us[j]) →
  CallsDIn Fence.wide nf P (C.μ f) us.toArray u w fun e u' w' => u' = u ∧ ∃ v S' β', e = .returned v ∧ Ext B w S w' S' ∧ Swf w' S' ∧ HOK C B w' S' β' H' ∧ Later β β' ∧ RelV C w' S' β' r v ∧ H.length ≤ H'.length ∧ Kp H.length H.length β β'
structure OrOK (P : Program) (C : Cx) (N : Names) (E : Env) : Prop where
 val : ∀ f ds r own, E.val f ds = some (r, own) → CallV P C N E.G f ds r own
 ref : ∀ f args H r H', E.ref f args H = some (r, H') → CallR P C N E.G f args H r H'
 dfr : ∀ f args H r H', E.dok f = true → E.ref f args H = some (r, H') → CallD P C N E.G f args H r H'
 it : ∀ Y f args H r H', E.it Y f args H = some (r, H') → CallI P C N E.G Y f args H r H'
 fni : ∀ Y f args H r, E.it Y f args H = some r → ∃ fn, P.funcs[C.μ f]? = some fn ∧ fn.body.isNone = false ∧ fn.name ≠ "runtime.NumGoroutine"
 fnv : ∀ f ds r, E.val f ds = some r → ∃ fn, P.funcs[C.μ f]? = some fn ∧ fn.body.isNone = false ∧ fn.name ≠ "runtime.NumGoroutine"
 fn : ∀ f args H r, E.ref f args H = some r → ∃ fn, P.funcs[C.μ f]? = some fn ∧ fn.body.isNone = false ∧ fn.name ≠ "runtime.NumGoroutine"
section
variable {P : Program} {N : Names} {C : Cx} {w : World} {S : Stab} {β : Pl} {B : Nat} {H : Heap}
theorem owned_stable {k : K} {es : List DV} {v : Value} (hS : Swf w S) (h : OwnedBy w S k es v B) : ∃ S', Ext B w S w S' ∧ Swf w S' ∧ RelD w S' (.l k es false) v ∧ (∀ b j, b < B → S' b j → S b j) := by
 rcases h with ⟨rfl, a, rfl⟩ | ⟨blk, off, cap, cells, e, rfl, h1, h2, h3, h4, h5, h6⟩
 ·exact ⟨S, Ext.refl _ _ _, hS, .l _ [] false a 0 0 0 (fun _ _ => undef) (Nat.le_refl _) (fun _ => rfl) (fun h => absurd h (Nat.lt_irrefl _)) (fun _ hj => absurd hj (Nat.not_lt_zero _)) (fun _ hj => absurd hj (Nat.not_lt_zero _)), fun _ _ _ h => h⟩
 ·obtain ⟨g0, c, g1, g2⟩ := h6
  have hdrop : ∀ x y, (cells.toList.drop off)[x]? = some y → cells[off + x]? = some y := fun x y h => by
   rw [List.getElem?_drop] at h; simpa using h
  refine ⟨fun b j => S b j ∨ (b = blk ∧ off ≤ j ∧ j < off + es.length * k.size), ⟨Below.refl _ _, fun _ _ h => .inl h, fun _ _ _ => rfl, ?_, fun _ _ _ h => h⟩, ?_, ?_, ?_⟩
  ·rintro b j (h | ⟨rfl, -, -⟩)
   ·exact .inl h
   ·exact .inr h2
  ·rintro b j (h | ⟨rfl, q1, q2⟩)
   ·exact hS b j h
   ·have hlt : j < cells.size := by
     have : es.length * k.size ≤ cap * k.size := Nat.mul_le_mul_right _ h1
     omega
    exact ⟨cells[j], cell_of_heap h3 (by simp [hlt])⟩
  ·refine .l _ es false _ cap blk off c h1 (fun h => by cases h) (fun _ => rfl) ?_ ?_
   ·intro j hj m hm
    have h7 : (j + 1) * k.size ≤ es.length * k.size := Nat.mul_le_mul_right _ hj
    rw [Nat.add_mul, Nat.one_mul] at h7
    have h8 := hdrop _ _ (g1 j hj m hm).1
    rw [← Nat.add_assoc] at h8
    exact ⟨cell_of_heap h3 h8, .inr ⟨rfl, by omega, by omega⟩, (g1 j hj m hm).2⟩
   ·intro j hj
    exact (g2 j hj).more (fun _ _ h => .inl h)
  ·rintro b j hb (h | ⟨rfl, -, -⟩)
   ·exact h
   ·omega
theorem behind_call {w' : World} {S' : Stab} (hH : HOK C B w S β H) (hB : B ≤ w.heap.size) (e : Ext w.heap.size w S w' S') :
  Ext B w S w' S' ∧ HOK C B w' S' β H := by
 have e' : Ext B w S w' S' := ⟨e.below.mono hB, e.stab, e.cell, fun b j h => (e.new b j h).imp id (fun h => Nat.le_trans hB h), e.shape⟩
 refine ⟨e', hH.ext e' (fun o blk base k h => e.below.block blk (hH.lt h)) ?_ (fun o blk x h => e.below.block blk (hH.splt h))⟩
 intro o blk base k h j hj
 rcases e.new blk j hj with h1 | h1
 ·exact h1
 ·have := hH.lt h; omega
theorem scal1_rel {w' : World} {S' : Stab} {x : DV} {v : Value} (hs : x.scal1 = true) (h : RelD w S x v) : RelD w' S' x v := by
 cases h with
 | b x => exact .b x
 | i k n => exact .i k n
 | s l x h => exact .s l x h
 | np => exact .np
 | nf => exact .nf
 | ni => exact .ni
 | nm => exact .nm
 | a cs vs h1 h2 h3 => simp [DV.scal1] at hs
 | l => simp [DV.scal1] at hs
 | ifc => simp [DV.scal1] at hs
theorem scalD_rel {w' : World} {S' : Stab} {x : DV} {v : Value} (hs : x.scal = true) (h : RelD w S x v) : RelD w' S' x v := by
 cases h with
 | a cs vs h1 h2 h3 =>
  refine .a cs vs h1 h2 ?_
  intro j hj hj'
  have hsc : ∀ c ∈ cs, DV.scal1 c = true := by simpa [DV.scal] using hs
  exact scal1_rel (hsc _ (List.getElem_mem hj)) (h3 j hj hj')
 | l => simp [DV.scal, DV.scal1] at hs
 | ifc => simp [DV.scal, DV.scal1] at hs
 | b x => exact .b x
 | i k n => exact .i k n
 | s l x h => exact .s l x h
 | np => exact .np
 | nf => exact .nf
 | ni => exact .ni
 | nm => exact .nm
theorem scalP_rel {w' : World} {S' : Stab} {β' : Pl} {x : PV} {v : Value} (hs : x.scal1 = true) (h : RelV C w S β x v) : RelV C w' S' β' x v := by
 cases h with
 | d x v h => exact .d x v (scalD_rel (by simpa [PV.scal1] using hs) h)
 | _ => simp [PV.scal1] at hs
theorem scal_rel {w' : World} {S' : Stab} {β' : Pl} {x : PV} {v : Value} (hs : x.scal = true) (h : RelV C w S β x v) : RelV C w' S' β' x v := by
 cases h with
 | t cs vs h1 h2 =>
  refine .t cs vs h1 ?_
  intro j hj hj'
  have hsc : ∀ c ∈ cs, PV.scal1 c = true := by simpa [PV.scal] using hs
  exact scalP_rel (hsc _ (List.getElem_mem hj)) (h2 j hj hj')
 | d x v h => exact .d x v (scalD_rel (by simpa [PV.scal, PV.scal1] using hs) h)
 | _ => simp [PV.scal, PV.scal1] at hs
theorem hok_adopt (hH : HOK C B w S β H) {B' : Nat} (hBB : B ≤ B') {id blk off : Nat} (hp : β id = .pend) (hlt : id < H.length) (hblk : B' ≤ blk) (hlow : ∀ o blk base k, β o = .at blk base k → blk < B') {cells : Array Value} {e : TypeId} (hw : w.heap[blk]? = some (.cells cells e (0, 0))) {x : Obj}
  (hc : OCells C w S β cells blk off x) : HOK C B w S (upd β id (.at blk off x.shape)) (H.put id (some x)) ∧ Later β (upd β id (.at blk off x.shape)) := by
 have hlat := later_upd (x := BO.at blk off x.shape) hp
 have hat : ∀ p blk1 base1 k1, upd β id (.at blk off x.shape) p = .at blk1 base1 k1 → (p = id ∧ blk1 = blk ∧ base1 = off ∧ k1 = x.shape) ∨ (p ≠ id ∧ β p = .at blk1 base1 k1) := by
  intro p blk1 base1 k1 h
  by_cases h1 : p = id
  ·subst h1; rw [upd_same] at h; cases h; exact .inl ⟨rfl, rfl, rfl, rfl⟩
  ·rw [upd_ne h1] at h; exact .inr ⟨h1, h⟩
 have hsp := spf hH (β' := upd β id (.at blk off x.shape)) (H' := H.put id (some x)) (Ext.refl B w S) (fun _ _ _ h => (upd_sp (by simp) h).2) (fun _ _ _ h => obj_put_ne (fun h' => (upd_sp (by simp) h).1 h'.symm)) (fun _ _ _ _ => rfl)
 refine ⟨⟨?_, ?_, ?_, ?_, ?_, hsp.1, hsp.2⟩, hlat⟩
 ·intro p blk1 base1 k1 h
  rcases hat p blk1 base1 k1 h with ⟨rfl, rfl, rfl, rfl⟩ | ⟨h1, h2⟩
  ·exact ⟨Nat.le_trans hBB hblk, x, cells, e, obj_put_same hlt, rfl, hw, hc.ext (Ext.refl B w S) hlat (fun _ h => h)⟩
  ·obtain ⟨a1, x0, c0, e0, a2, a3, a4, a5⟩ := hH.live p blk1 base1 k1 h2
   exact ⟨a1, x0, c0, e0, by rw [obj_put_ne (fun h => h1 h.symm)]; exact a2, a3, a4, a5.ext (Ext.refl B w S) hlat (fun _ h => h)⟩
 ·intro p h
  have h1 : p ≠ id := fun h1 => by subst h1; rw [upd_same] at h; cases h
  rw [upd_ne h1] at h
  rw [obj_put_ne (fun h => h1 h.symm)]; exact hH.dead p h
 ·intro p h
  have h1 : p ≠ id := fun h1 => by subst h1; rw [upd_same] at h; cases h
  rw [upd_ne h1] at h
  rw [obj_put_ne (fun h => h1 h.symm)]; exact hH.virt p h
 ·intro p p' blk1 base1 k1 base2 k2 h1 h2
  rcases hat _ _ _ _ h1 with ⟨rfl, rfl, rfl, rfl⟩ | ⟨a1, a3⟩
  ·rcases hat _ _ _ _ h2 with ⟨rfl, -, -, -⟩ | ⟨b1, b3⟩
   ·rfl
   ·have := hlow _ _ _ _ b3; omega
  ·rcases hat _ _ _ _ h2 with ⟨rfl, rfl, rfl, rfl⟩ | ⟨b1, b3⟩
   ·have := hlow _ _ _ _ a3; omega
   ·exact hH.inj p p' blk1 base1 k1 base2 k2 a3 b3
 ·intro p h
  rw [put_length] at h
  rw [upd_ne (by omega)]; exact hH.out p h
theorem call_args {us : List Value} {vs : List PV} {ds : List DV} {os : List Nat} (hH : HOK C B w S β H) (hp : purs H vs = some (ds, os)) (hl : vs.length = us.length) (hr : ∀ j (h : j < vs.length) (h' : j < us.length), RelV C w S β vs[j] us[j]) :
  ds.length = us.length ∧ ∀ j (h : j < ds.length) (h' : j < us.length), RelD w (FSq β H os S) ds[j] us[j] := by
 obtain ⟨h1, h2⟩ := purs_rel hH hp
 exact ⟨by omega, h2 us hr⟩
theorem RelV.plain {β' : Pl} {x : PV} {v : Value} (h : RelV C w S (fun _ => .pend) x v) : RelV C w S β' x v :=
 h.ext (Ext.refl 0 w S) (fun _ => .inr (.inr rfl))
end
end Go.Sim
end
section
open Go.RowKit
namespace Go.Sim
def FR (r : Option Nat) : Fence := { Fence.wide with round := r }
section
variable {P : Program} {N : Names} {C : Cx} {w : World} {S : Stab} {β : Pl} {B : Nat} {H : Heap} {a : Act} {ro : Option Nat} {nf : Nat}
theorem calls_FR {f : FuncId} {args : Array Value} {R : Ending → World → Prop} : CallsIn (FR ro) nf P f args w R ↔ Calls P f args w R := by
 cases ro with
 | none => exact callsIn_wide
 | some l => exact ⟨fun h => callsIn_wide.1 (CallsIn.outOfRound (F := Fence.wide) (l := l) h), fun h => CallsIn.inRound (F := Fence.wide) l (callsIn_wide.2 h)⟩
theorem wp_value {o : Oper} (hnd : ∀ c, o.op ≠ .defer c) {next : Act → World → Prop} {Q : Exit → Act → World → Prop} {u : Value} {w' : World} (h : (execOp a.eval o).run P w = .ok (.value u) w') (hn : next (a.put o.dst u) w') : o.wpIn (FR ro) nf P a w next Q := by
 refine ⟨fun _ _ => trivial, ?_⟩
 rw [Oper.semAt_eq _ _ _ hnd, h]; exact hn
theorem wp_opskip {o : Oper} (hnd : ∀ c, o.op ≠ .defer c) {next : Act → World → Prop} {Q : Exit → Act → World → Prop} {w' : World} (h : (execOp a.eval o).run P w = .ok .skip w') (hn : next (a.put o.dst undef) w') : o.wpIn (FR ro) nf P a w next Q := by
 refine ⟨fun _ _ => trivial, ?_⟩
 rw [Oper.semAt_eq _ _ _ hnd, h]; exact hn
theorem wp_enter {o : Oper} (hnd : ∀ c, o.op ≠ .defer c) {next : Act → World → Prop} {Q : Exit → Act → World → Prop} {f : FuncId} {args : Array Value} {R : Ending → World → Prop} (h : (execOp a.eval o).run P w = .ok (.enter f args) w) (hc : Calls P f args w R)
  (hn : ∀ e w', R e w' → ∃ v, e = .returned v ∧ next (a.put o.dst v) w') : o.wpIn (FR ro) nf P a w next Q := by
 refine ⟨fun _ _ => trivial, ?_⟩
 rw [Oper.semAt_eq _ _ _ hnd, h]
 refine ⟨(fun h => by simp [FR, Fence.wide] at h), (calls_FR.2 hc).mono ?_⟩
 intro e w' hr
 obtain ⟨v, rfl, hv⟩ := hn e w' hr
 exact hv
theorem run_v {s : Sem Value} {u : Value} {w w' : World} (h : s.run P w = .ok u w') : (do pure (Next.value (← s)) : Sem Next).run P w = .ok (.value u) w' := by
 simp [h]
theorem run_u {s : Sem Unit} {w w' : World} (h : s.run P w = .ok () w') : (do s; pure Next.skip : Sem Next).run P w = .ok .skip w' := by
 simp [h]
def NoCells (o : Go.Obj) : Prop := ∀ c t f, o ≠ .cells c t f
theorem swf_cells (hS : Swf w S) {b j : Nat} (h : S b j) : ∃ c t f, w.heap[b]? = some (.cells c t f) := by
 obtain ⟨v, hv⟩ := hS b j h
 unfold World.cell? at hv
 split at hv
 ·exact ⟨_, _, _, by assumption⟩
 ·cases hv
theorem newsp_ext (hS : Swf w S) (hB : B ≤ w.heap.size) (ob : Go.Obj) : Ext B w S (w.alloc ob) S := alloc_ext hS hB ob
theorem hok_newsp (hH : HOK C B w S β H) (hS : Swf w S) (hB : B ≤ w.heap.size) {id : Nat} (hp : β id = .pend) (hlt : id < H.length) {ob : Go.Obj} {x : Sp} {y : Obj} (hy : SpOK (w.alloc ob) S w.heap.size x y) :
  HOK C B (w.alloc ob) S (upd β id (.sp w.heap.size x)) (H.put id (some y)) ∧ Later β (upd β id (.sp w.heap.size x)) := by
 have hl := later_upd (x := .sp w.heap.size x) hp
 have hext := alloc_ext hS hB ob
 have hat : ∀ o blk base k, upd β id (.sp w.heap.size x) o = .at blk base k → o ≠ id ∧ β o = .at blk base k := fun o blk base k h => by
  by_cases ho : o = id
  ·subst ho; rw [upd_same] at h; cases h
  ·rw [upd_ne ho] at h; exact ⟨ho, h⟩
 refine ⟨⟨?_, ?_, ?_, ?_, ?_, ?_, ?_⟩, hl⟩
 ·intro o blk base k ho
  obtain ⟨h0, ho⟩ := hat _ _ _ _ ho
  obtain ⟨h1, x0, c0, e0, h2, h3, h4, h5⟩ := hH.live o blk base k ho
  refine ⟨h1, x0, c0, e0, by rw [obj_put_ne (fun h' => h0 h'.symm)]; exact h2, h3, ?_, h5.ext hext hl (fun _ h => h)⟩
  rw [Below.heap_alloc w _ blk (hH.lt ho)]; exact h4
 ·intro o ho
  have h : o ≠ id := fun h => by subst h; rw [upd_same] at ho; cases ho
  rw [upd_ne h] at ho
  rw [obj_put_ne (fun h' => h h'.symm)]; exact hH.dead o ho
 ·intro o ho
  have h : o ≠ id := fun h => by subst h; rw [upd_same] at ho; cases ho
  rw [upd_ne h] at ho
  rw [obj_put_ne (fun h' => h h'.symm)]; exact hH.virt o ho
 ·intro o o' blk base k base' k' h1 h2
  exact hH.inj o o' blk base k base' k' (hat _ _ _ _ h1).2 (hat _ _ _ _ h2).2
 ·intro o ho
  rw [put_length] at ho
  have h : o ≠ id := by omega
  rw [upd_ne h]; exact hH.out o ho
 ·intro o blk x' ho
  by_cases h : o = id
  ·subst h
   rw [upd_same] at ho
   cases ho
   exact ⟨hB, y, obj_put_same hlt, hy⟩
  ·rw [upd_ne h] at ho
   obtain ⟨h1, y0, h2, h3⟩ := hH.sp o blk x' ho
   exact ⟨h1, y0, by rw [obj_put_ne (fun h' => h h'.symm)]; exact h2, h3.ext hext (Below.heap_alloc w _ blk (hH.splt ho))⟩
 ·intro o o' blk x1 x2 h1 h2
  by_cases ha : o = id
  ·by_cases hb : o' = id
   ·rw [ha, hb]
   ·subst ha
    rw [upd_same] at h1; cases h1
    rw [upd_ne hb] at h2
    exact absurd (hH.splt h2) (Nat.lt_irrefl _)
  ·by_cases hb : o' = id
   ·subst hb
    rw [upd_same] at h2; cases h2
    rw [upd_ne ha] at h1
    exact absurd (hH.splt h1) (Nat.lt_irrefl _)
   ·rw [upd_ne ha] at h1
    rw [upd_ne hb] at h2
    exact hH.spi o o' blk x1 x2 h1 h2
theorem SpOK.obj {blk : Nat} {x : Sp} {y : Obj} (h : SpOK w S blk x y) : ∃ ob, w.heap[blk]? = some ob ∧ NoCells ob := by
 unfold SpOK at h
 split at h
 ·obtain ⟨ms, clock, h1, -⟩ := h; exact ⟨_, h1, fun _ _ _ h => by cases h⟩
 ·obtain ⟨s, -, h1⟩ := h; exact ⟨_, h1, fun _ _ _ h => by cases h⟩
 ·exact ⟨_, h, fun _ _ _ h => by cases h⟩
 ·exact ⟨_, h, fun _ _ _ h => by cases h⟩
 ·exact h.elim
theorem put_ext (hS : Swf w S) {blk : Nat} (hB : B ≤ blk) {o0 : Go.Obj} (h0 : w.heap[blk]? = some o0) (hn : NoCells o0) (ob : Go.Obj) : Ext B w S (w.putObj blk ob) S := by
 have hne : ∀ b j, S b j → b ≠ blk := fun b j hs hb => by
  subst hb
  obtain ⟨c, t, f, h⟩ := swf_cells hS hs
  rw [h0] at h; cases h
  exact hn _ _ _ rfl
 refine ⟨⟨rfl, rfl, rfl, by simp, fun k hk => World.putObj_heap_other (by omega)⟩, fun _ _ h => h, ?_, fun _ _ h => .inl h, ?_⟩
 ·intro b j hs
  simp only [World.cell?, World.putObj_heap_other (hne b j hs)]
 ·intro b e n h
  by_cases hb : b = blk
  ·subst hb
   unfold World.shape? at h
   rw [h0] at h
   cases o0 <;> first | (cases h; done) | exact absurd rfl (hn _ _ _)
  ·unfold World.shape? at h ⊢
   rw [World.putObj_heap_other hb]; exact h
theorem setsp (hH : HOK C B w S β H) (hS : Swf w S) {o blk : Nat} {x : Sp} (hb : β o = .sp blk x) (ob : Go.Obj) {y' : Obj} (hy : SpOK (w.putObj blk ob) S blk x y') :
  Ext B w S (w.putObj blk ob) S ∧ HOK C B (w.putObj blk ob) S β (H.put o (some y')) := by
 obtain ⟨g1, y, g2, g3⟩ := hH.sp o blk x hb
 obtain ⟨o0, g4, g5⟩ := g3.obj
 have hext := put_ext hS g1 g4 g5 ob
 have hlt : o < H.length := obj_lt g2
 refine ⟨hext, ⟨?_, ?_, ?_, hH.inj, ?_, ?_, hH.spi⟩⟩
 ·intro o' blk' base k h
  obtain ⟨h1, x0, c0, e0, h2, h3, h4, h5⟩ := hH.live o' blk' base k h
  have hne : o ≠ o' := fun hq => by subst hq; rw [hb] at h; cases h
  have hbn := hH.spne hb h4
  exact ⟨h1, x0, c0, e0, by rw [obj_put_ne hne]; exact h2, h3, by rw [World.putObj_heap_other (fun h => hbn h.symm)]; exact h4, h5.ext hext (Later.refl _) (fun _ h => h)⟩
 ·intro o' h
  have hne : o ≠ o' := fun hq => by subst hq; rw [hb] at h; cases h
  rw [obj_put_ne hne]; exact hH.dead o' h
 ·intro o' h
  have hne : o ≠ o' := fun hq => by subst hq; rw [hb] at h; cases h
  rw [obj_put_ne hne]; exact hH.virt o' h
 ·intro o' h
  rw [put_length] at h
  exact hH.out o' h
 ·intro o' blk' x' h
  by_cases ho : o = o'
  ·subst ho
   rw [hb] at h; cases h
   exact ⟨g1, y', obj_put_same hlt, hy⟩
  ·obtain ⟨h1, y0, h2, h3⟩ := hH.sp o' blk' x' h
   have hbn : blk' ≠ blk := fun hq => ho (hH.spi o o' blk x x' hb (hq ▸ h))
   exact ⟨h1, y0, by rw [obj_put_ne ho]; exact h2, h3.ext hext (World.putObj_heap_other hbn)⟩
def ScKey (d : TypeDesc) : Prop := d = .bool ∨ d = .string ∨ ∃ k, d = .int k
theorem keyS_rel {x y : DV} {u z : Value} (hx : RelD w S x u) (hy : RelD w S y z) {e : Bool} (h : keyS x y = some e) {d : TypeDesc} (hd : ScKey d) (hk : MapKept.IsKey d u) : Instr.sameNow d u z = some e := by
 unfold keyS at h
 split at h
 ·split at h
  ·rename_i hkk
   subst hkk
   cases h
   cases hx; cases hy
   rcases hd with rfl | rfl | ⟨k, rfl⟩ <;> simp_all [MapKept.IsKey, Instr.sameNow]
  ·cases h
 ·cases h
  cases hx with
  | s _ x hx =>
  cases hy with
  | s _ y hy =>
  subst hx hy
  rcases hd with rfl | rfl | ⟨k, rfl⟩
  ·simp [MapKept.IsKey] at hk
  ·simp only [Instr.sameNow]
   congr 1
   rw [Bool.eq_iff_iff, MapKept.bytes_beq]
   simp only [beq_iff_eq]
   constructor
   ·rintro rfl; rfl
   ·intro h
    obtain ⟨⟨x⟩⟩ := x
    obtain ⟨⟨y⟩⟩ := y
    simpa using h
  ·simp [MapKept.IsKey] at hk
 ·cases h
  cases hx; cases hy
  rcases hd with rfl | rfl | ⟨k, rfl⟩ <;> simp_all [MapKept.IsKey, Instr.sameNow]
 ·cases h
def ML (w : World) (S : Stab) : List (DV × DV) → List MapEntry → Prop
 | [], [] => True
 | e :: es, m :: ms => (RelD w S e.1 m.key ∧ RelD w S e.2 m.val) ∧ ML w S es ms
 | _, _ => False
theorem ml_of : ∀ {es : List (DV × DV)} {ms : List MapEntry}, es.length = ms.length → (∀ j (h : j < es.length) (h' : j < ms.length), RelD w S es[j].1 ms[j].key ∧ RelD w S es[j].2 ms[j].val) → ML w S es ms
 | [], [], _, _ => trivial
 | e :: es, m :: ms, hl, h => ⟨h 0 (by simp) (by simp), ml_of (by simpa using hl) fun j hj hj' => h (j + 1) (by simpa using hj) (by simpa using hj')⟩
 | [], _ :: _, hl, _ => by cases hl
 | _ :: _, [], hl, _ => by cases hl
theorem ml_to : ∀ {es : List (DV × DV)} {ms : List MapEntry}, ML w S es ms → es.length = ms.length ∧ ∀ j (h : j < es.length) (h' : j < ms.length), RelD w S es[j].1 ms[j].key ∧ RelD w S es[j].2 ms[j].val
 | [], [], _ => ⟨rfl, fun j h => absurd h (Nat.not_lt_zero _)⟩
 | e :: es, m :: ms, h => by
  obtain ⟨h1, h2⟩ := ml_to h.2
  refine ⟨by simp [h1], fun j hj hj' => ?_⟩
  cases j with
  | zero => exact h.1
  | succ j => exact h2 j (by simpa using hj) (by simpa using hj')
 | [], _ :: _, h => h.elim
 | _ :: _, [], h => h.elim
theorem mrel_iff {es : List (DV × DV)} {ms : Array MapEntry} : MRel w S es ms ↔ ML w S es ms.toList :=
 ⟨fun h => ml_of (by simpa using h.1) fun j hj hj' => by simpa using h.2 j hj (by simpa using hj'), fun h => ⟨by simpa using (ml_to h).1, fun j hj hj' => by have := (ml_to h).2 j hj (by simpa using hj'); simp only [Array.getElem_toList] at this; exact this⟩⟩
theorem getK_rel {k : DV} {u : Value} (hk : RelD w S k u) {d : TypeDesc} (hd : ScKey d) (hu : MapKept.IsKey d u) : ∀ {es : List (DV × DV)} {ms : List MapEntry} {r : Option DV} (i : Nat), ML w S es ms → getK k es = some r →
  match r with
  | none => Instr.findNow d u ms i = some none
  | some v => ∃ j z, Instr.findNow d u ms i = some (some (j, z)) ∧ RelD w S v z
 | [], [], r, i, _, h => by cases h; rfl
 | (a, v) :: es, m :: ms, r, i, hm, h => by
  simp only [getK] at h
  obtain ⟨⟨h1, h2⟩, h3⟩ := hm
  split at h
  ·rename_i he
   cases h
   have := keyS_rel hk h1 he hd hu
   exact ⟨i, m.val, by simp [Instr.findNow, this], h2⟩
  ·rename_i he
   have hs := keyS_rel hk h1 he hd hu
   have ih := getK_rel hk hd hu (i + 1) h3 h
   cases r with
   | none => simpa [Instr.findNow, hs] using ih
   | some v => simpa [Instr.findNow, hs] using ih
  ·cases h
 | [], _ :: _, _, _, h, _ => h.elim
 | _ :: _, [], _, _, h, _ => h.elim
theorem putK_rel {k x : DV} {u z : Value} (hk : RelD w S k u) (hx : RelD w S x z) {d : TypeDesc} (hd : ScKey d) (hu : MapKept.IsKey d u) (clock : Nat) : ∀ {es es' : List (DV × DV)} {ms : List MapEntry} (i : Nat), ML w S es ms → putK k x es = some es' →
  (Instr.findNow d u ms i = some none ∧ ML w S es' (ms ++ [{ key := u, val := z, born := clock }])) ∨
  ∃ j v, Instr.findNow d u ms i = some (some (i + j, v)) ∧ (∃ e, ms[j]? = some e ∧ Instr.sameNow d u e.key = some true) ∧ ∀ key, RelD w S k key ∨ (∃ e, ms[j]? = some e ∧ key = e.key) → ML w S es' (ms.modify j fun e => { e with key := key, val := z })
 | [], es', [], i, _, h => by
  cases h
  exact .inl ⟨rfl, ⟨hk, hx⟩, trivial⟩
 | (a, v) :: es, es', m :: ms, i, hm, h => by
  simp only [putK] at h
  obtain ⟨⟨h1, h2⟩, h3⟩ := hm
  split at h
  ·rename_i he
   cases h
   have hs := keyS_rel hk h1 he hd hu
   refine .inr ⟨0, m.val, by simp [Instr.findNow, hs], ⟨m, rfl, hs⟩, ?_⟩
   intro key hkey
   simp only [List.modify_zero_cons]
   refine ⟨⟨?_, hx⟩, h3⟩
   rcases hkey with hkey | ⟨e, he', rfl⟩
   ·
    simp only [keyS] at he
    have : a = k := by
     split at he
     ·split at he
      ·rename_i hq; subst hq; simp at he; subst he; rfl
      ·cases he
     ·simp at he; subst he; rfl
     ·simp at he; subst he; rfl
     ·cases he
    subst this
    exact hkey
   ·simp at he'; subst he'; exact h1
  ·rename_i he
   have hs := keyS_rel hk h1 he hd hu
   split at h
   ·rename_i r' hr
    cases h
    rcases putK_rel hk hx hd hu clock (i + 1) h3 hr with ⟨g1, g2⟩ | ⟨j, v', g1, ⟨e, g2, g3⟩, g4⟩
    ·exact .inl ⟨by simpa [Instr.findNow, hs] using g1, ⟨h1, h2⟩, g2⟩
    ·refine .inr ⟨j + 1, v', by simp [Instr.findNow, hs, g1]; omega, ⟨e, by simpa using g2, g3⟩, ?_⟩
     intro key hkey
     rw [List.modify_succ_cons]
     exact ⟨⟨h1, h2⟩, g4 key (by simpa using hkey)⟩
   ·cases h
  ·cases h
 | [], _, _ :: _, _, h, _ => h.elim
 | _ :: _, _, [], _, h, _ => h.elim
theorem run_keyStays {old new : Value} {d : TypeDesc} (hd : ScKey d) (h : Instr.sameNow d new old = some true) : (Instr.keyThatStays old new).run P w = .ok new w := by
 have : Instr.sameBits 10000 old new = true := by
  unfold Instr.sameNow at h
  split at h
  ·split at h
   ·rename_i hk; subst hk; simp at h; subst h; simp [Instr.sameBits]
   ·cases h
  ·simp only [Option.some.injEq] at h
   rw [MapKept.bytes_beq] at h
   subst h
   simp only [Instr.sameBits]
   exact (MapKept.bytes_beq _ _).2 rfl
  ·simp at h; subst h; simp [Instr.sameBits]
  ·cases h
 simp [Instr.keyThatStays, this]
theorem bool_rel {b : Bool} {u : Value} (h : RelV C w S β (.d (.b b)) u) : u = .bool b := by
 cases h with
 | d _ _ h => cases h; rfl
theorem run_call_func {f : FuncId} {fn : Func} (hfn : P.funcs[f]? = some fn) (hb : fn.body.isNone = false) (hn : fn.name ≠ "runtime.NumGoroutine") (args : Array Value) : (callFunc f args).run P w = .ok (.enter f args) w := by
 have : (fn.name == "runtime.NumGoroutine") = false := by simpa using hn
 simp only [callFunc, Sem.run_bind, run_program, Result.andThen_ok, hfn, this, Bool.false_eq_true, if_false, hb, Sem.run_pure]
def OpPost (C : Cx) (B : Nat) (w : World) (S : Stab) (β : Pl) (H : Heap) (id : Nat) (v : PV) (H' : Heap) (K : Value → World → Prop) : Prop :=
 ∀ u w' S' β', Ext B w S w' S' → Swf w' S' → HOK C B w' S' β' H' → Later β β' → RelV C w' S' β' v u → H.length ≤ H'.length → Kp H.length id β β' → K u w'
theorem OpPost.same {id : Nat} {v : PV} {K : Value → World → Prop} (h : OpPost C B w S β H id v H K) (hH : HOK C B w S β H) (hS : Swf w S) {u : Value} (hu : RelV C w S β v u) : K u w :=
 h u w S β (Ext.refl _ _ _) hS hH (Later.refl _) hu (Nat.le_refl _) (Kp.refl _ _ _)
theorem OpPost.of_leaves {id : Nat} {v : PV} {H' : Heap} {K : Value → World → Prop} (h : OpPost C B w S β H id v H' K) {u : Value} {w' : World} (hl : Leaves C B w S β H id v H' u w') : K u w' := by
 obtain ⟨S', β', a1, a2, a3, a4, a5, a6, a7⟩ := hl
 exact h u w' S' β' a1 a2 a3 a4 a5 (by omega) a7
end
end Go.Sim
end
section
open Go.RowKit
namespace Go.Sim
section
variable {P : Program} {N : Names} {C : Cx} {w : World} {S : Stab} {β : Pl} {B : Nat} {H : Heap} {a : Act} {ro : Option Nat} {nf : Nat} {id : Nat} {v : PV} {H' : Heap} {o : Oper} {next : Act → World → Prop} {Q : Exit → Act → World → Prop}
theorem dbytes_rel : ∀ {es : List DV} {l : List UInt8}, dbytes es = some l → ∃ ns : List Int, es = ns.map (.i .u8) ∧ l = ns.map fun n => UInt8.ofNat n.toNat
 | [], l, h => by cases h; exact ⟨[], rfl, rfl⟩
 | e :: es, l, h => by
  unfold dbytes at h
  split at h
  ·cases ‹_ :: _ = []›
  ·rename_i n r heq
   cases heq
   split at h
   ·rename_i l' hl
    cases h
    obtain ⟨ns, rfl, rfl⟩ := dbytes_rel hl
    exact ⟨n :: ns, rfl, rfl⟩
   ·cases h
  ·cases h
theorem i_rel {k : IntKind} {n : Int} {u : Value} (h : RelD w S (.i k n) u) : u = .int k n := by cases h; rfl
theorem s_rel {l : List UInt8} {u : Value} (h : RelV C w S β (.d (.s l)) u) : ∃ z : ByteArray, u = .string z ∧ z.data.toList = l := by
 cases h with
 | d _ _ h => cases h with
  | s _ z hz => exact ⟨z, rfl, hz⟩
theorem ifc_rel {t : Nat} {y : DV} {u : Value} (h : RelV C w S β (.d (.ifc t y)) u) : ∃ z, u = .iface t z ∧ RelD w S y z := by
 cases h with
 | d _ _ h => cases h with
  | ifc _ _ z hz => exact ⟨z, rfl, hz⟩
theorem ni_rel {u : Value} (h : RelV C w S β (.d .ni) u) : u = .nilIface := by
 cases h with
 | d _ _ h => cases h; rfl
theorem conv_sb (hnd : ∀ c, o.op ≠ .defer c) {s t e : TypeId} {x : Operand} (hop : o.op = .convert s t x) (hs : P.underlying s = some (.slice e)) (ht : P.underlying t = some .string) (he : P.underlying e = some (.int .u8)) {r : PV} (hx : RelV C w S β r (a.eval x)) (hH : HOK C B w S β H)
  (hns : ∀ z, r ≠ .d (.s z)) (h : (match elemsA H none r with | some es => (match dbytes es with | some l => some (PV.d (.s l), H) | none => none) | none => none) = some (v, H')) (hS : Swf w S) (hp : OpPost C B w S β H id v H' fun u w' => next (a.put o.dst u) w') : o.wpIn (FR ro) nf P a w next Q := by
 split at h
 ·rename_i es hes
  split at h
  ·rename_i l hl
   simp only [Option.some.injEq, Prod.mk.injEq] at h
   obtain ⟨rfl, rfl⟩ := h
   obtain ⟨ns, rfl, rfl⟩ := dbytes_rel hl
   obtain ⟨A, hr⟩ := elemsA_sound (P := P) hH hx hes
   obtain ⟨g0, c, g1, g2⟩ := hr.rel
   have hA : A = ns.map (Value.int .u8) := by
    apply List.ext_getElem
    ·rw [hr.size]; simp [K.size]
    ·intro j hj hj'
     have hjl : j < ns.length := by simpa using hj'
     have q1 := (g1 j (by simpa using hjl) 0 (by simp [K.size])).1
     have q2 := g2 j (by simpa using hjl)
     simp only [K.size, Nat.mul_one, Nat.add_zero] at q1
     rw [List.getElem?_eq_getElem hj] at q1
     simp only [Option.some.injEq] at q1
     simp only [List.getElem_map, mkV] at q2
     rw [q1, i_rel q2]
     simp
   have hcells := hr.cells ns.length (by simp) w rfl
   simp only [K.size, Nat.mul_one, hA] at hcells
   refine wp_value hnd (u := .string ⟨(ns.map fun n => UInt8.ofNat n.toNat).toArray⟩) ?_ (hp.same hH hS (.d _ _ (.s _ _ (by simp))))
   simp only [execOp, hop]
   refine run_v ?_
   have hlen := hr.len
   generalize a.eval x = u at *
   cases u with
   | slice ad len cap =>
    have hl' : len = ns.length := by simpa [Builtin.lenOf] using hlen
    subst hl'
    cases ad with
    | none =>
     have : ns = [] := by
      have : (Builtin.firstCells 1 ns.length (.slice none ns.length cap)).run P w = .ok #[] w := by simp [Builtin.firstCells]
      rw [this] at hcells
      simp at hcells
      cases ns with
      | nil => rfl
      | cons n ns => simp at hcells
     subst this
     exact run_convert_bytes_nil w s e hs he 0 cap t ht
    | some ad =>
     simp only [Builtin.firstCells, Nat.mul_one] at hcells
     rw [run_convert_bytes_string w s t e _ ns.length cap hs he ht, run_bytesToString w ad ns.length cap ns (by rw [hcells]; congr 2; rw [List.take_of_length_le (by simp)]), foldl_push_bytes]
     simp [ByteArray.empty, ByteArray.emptyWithCapacity]
     rfl
   | string z =>
    cases hx with
    | d _ _ hx => cases hx; exact absurd rfl (hns _)
    | u => simp [elemsA] at hes
    | g => simp [elemsA] at hes
    | h _ _ _ hh => simp [elemsA] at hes
    | r _ _ _ _ _ _ _ hh =>
     unfold RelRf at hh
     split at hh
     ·exact hh.elim
     ·rename_i hb; simp [elemsA, hH.dead _ hb] at hes
     ·obtain ⟨-, -, a, h1⟩ := hh; cases h1
     ·obtain ⟨-, cap, a, h1, -⟩ := hh; cases h1
     ·exact hh.elim
    | p _ _ _ _ _ hh => simp [elemsA] at hes
   | _ => simp [Builtin.lenOf] at hlen
  ·cases h
 ·cases h
theorem conv_bs (hnd : ∀ c, o.op ≠ .defer c) {s t e : TypeId} {x : Operand} (hop : o.op = .convert s t x) (hs : P.underlying s = some .string) (ht : P.underlying t = some (.slice e)) (he : P.underlying e = some (.int .u8)) {l : List UInt8} (hx : RelV C w S β (.d (.s l)) (a.eval x)) (hH : HOK C B w S β H) (hB : B ≤ w.heap.size) (hS : Swf w S)
  (hp : OpPost C B w S β H id (.d (.l none (bytesOf l) false)) H fun u w' => next (a.put o.dst u) w') : o.wpIn (FR ro) nf P a w next Q := by
 obtain ⟨z, hax, hz⟩ := s_rel hx
 have hrun := run_bytes_of_string (P := P) w s t e z hs ht he
 have hB' : B ≤ w.drew.heap.size := hB
 have hSd : Swf w.drew S := hS.ext (drew_ext (B := B))
 generalize hrow : bytesRow z (grownCap w z.size 0 e) = row at hrun
 have hext : Ext B w S (w.drew.alloc (.cells row e (row.size, row.size + 1))) S := drew_ext.trans (alloc_ext hSd hB' _)
 have hzl : z.size = l.length := by subst hz; simp
 have hnew : (w.drew.alloc (.cells row e (row.size, row.size + 1))).heap[w.heap.size]? = some (.cells row e (row.size, row.size + 1)) := by
  show (w.heap.push _)[w.heap.size]? = _
  simp
 have hat : ∀ j (h : j < l.length), row[j]? = some (.int .u8 (l[j].toNat : Int)) := by
  intro j hj
  subst hrow hz
  exact bytesRow_at z _ j (by simpa using hj)
 have hnS : ∀ j, ¬ S w.heap.size j := fun j h => absurd (hS.lt h) (Nat.lt_irrefl _)
 let S' : Stab := fun b j => S b j ∨ (b = w.heap.size ∧ j < l.length)
 have hext2 : Ext B w S (w.drew.alloc (.cells row e (row.size, row.size + 1))) S' :=
  ⟨hext.below, fun _ _ h => .inl h, hext.cell, fun b j h => h.imp (fun h => h) (fun h => by rw [h.1]; exact hB), hext.shape⟩
 have hSw : Swf (w.drew.alloc (.cells row e (row.size, row.size + 1))) S' := by
  rintro b j (h | ⟨rfl, h⟩)
  ·exact (hS.ext hext) b j h
  ·exact ⟨_, cell_of_heap hnew (hat j h)⟩
 have hrel : RelD (w.drew.alloc (.cells row e (row.size, row.size + 1))) S' (.l none (bytesOf l) false) (.slice (some ⟨w.heap.size, 0, none⟩) z.size (grownCap w z.size 0 e)) := by
  have hbl : (bytesOf l).length = z.size := by simp [bytesOf, hzl]
  rw [← hbl]
  refine .l none (bytesOf l) false _ _ w.heap.size 0 (fun j _ => .int .u8 ((l.getD j 0).toNat : Int)) (by rw [hbl]; exact grownCap_ge w _ _ _) (fun h => by cases h) (fun _ => rfl) ?_ ?_
  ·intro j hj m hm
   have hjl : j < l.length := by simpa [bytesOf] using hj
   have hm0 : m = 0 := by simp [K.size] at hm; exact hm
   subst hm0
   have h1 := cell_of_heap hnew (hat j hjl)
   simp only [K.size, Nat.mul_one, Nat.zero_add, Nat.add_zero]
   refine ⟨?_, .inr ⟨rfl, hjl⟩, rfl⟩
   rw [h1]; simp [hjl]
  ·intro j hj
   have hjl : j < l.length := by simpa [bytesOf] using hj
   simp only [bytesOf, List.getElem_map, mkV]
   have : l.getD j 0 = l[j] := by simp [hjl]
   rw [this]
   exact .i _ _
 refine wp_value hnd (u := .slice (some ⟨w.heap.size, 0, none⟩) z.size (grownCap w z.size 0 e)) ?_ (hp _ _ S' β hext2 hSw ?_ (Later.refl _) (.d _ _ hrel) (Nat.le_refl _) (Kp.refl _ _ _))
 ·simp only [execOp, hop, hax]
  exact run_v hrun
 ·refine hH.ext hext2 (fun _ blk _ _ h => ?_) (fun o' blk _ _ h j hj => ?_) (fun _ blk _ h => ?_)
  ·exact Below.heap_alloc w.drew _ blk (hH.lt h)
  ·rcases hj with h1 | ⟨rfl, h1⟩
   ·exact h1
   ·exact absurd (hH.lt h) (Nat.lt_irrefl _)
  ·exact Below.heap_alloc w.drew _ blk (hH.splt h)
theorem op_mkif (hnd : ∀ c, o.op ≠ .defer c) {t : TypeId} {x : Operand} (hop : o.op = .makeInterface t x) {d : TypeDesc} (ht : P.underlying t = some d) (hd : ∀ ms, d ≠ .interface ms) {r : PV} (hx : RelV C w S β r (a.eval x)) (hH : HOK C B w S β H) (hS : Swf w S)
  {y : DV} {os : List Nat} (hpu : pur H r = some (y, os)) (hp : OpPost C B w S β H id (.d (.ifc t y)) (frz H os) fun u w' => next (a.put o.dst u) w') : o.wpIn (FR ro) nf P a w next Q := by
 have hrel := pur_rel hH hx hpu
 refine wp_value hnd (u := .iface t (a.eval x)) ?_ (hp _ _ _ β (freeze_ext hH os) (freeze_swf hH hS os) (freeze_hok hH os) (Later.refl _) (.d _ _ (.ifc t _ _ hrel)) (by rw [frz_length]; exact Nat.le_refl _) (Kp.refl _ _ _))
 simp only [execOp, hop]
 refine run_v ?_
 simp only [Instr.makeInterface, Sem.run_bind, run_und ht, Result.andThen_ok]
 cases d <;> first | exact absurd rfl (hd _) | rfl
theorem w_rel {u : Nat} {y : PV} {v : Value} (h : RelV C w S β (.w u y) v) : ∃ z, v = .iface u z ∧ RelV C w S β y z := by
 cases h with
 | w _ _ z h => exact ⟨z, rfl, h⟩
theorem op_mkifw (hnd : ∀ c, o.op ≠ .defer c) {t : TypeId} {x : Operand} (hop : o.op = .makeInterface t x) {d : TypeDesc} (ht : P.underlying t = some d) (hd : ∀ ms, d ≠ .interface ms) {r : PV} (hx : RelV C w S β r (a.eval x)) (hH : HOK C B w S β H) (hS : Swf w S)
  (hp : OpPost C B w S β H id (.w t r) H fun u w' => next (a.put o.dst u) w') : o.wpIn (FR ro) nf P a w next Q := by
 refine wp_value hnd (u := .iface t (a.eval x)) ?_ (hp.same hH hS (.w t _ _ hx))
 simp only [execOp, hop]
 refine run_v ?_
 simp only [Instr.makeInterface, Sem.run_bind, run_und ht, Result.andThen_ok]
 cases d <;> first | exact absurd rfl (hd _) | rfl
theorem op_tas (hnd : ∀ c, o.op ≠ .defer c) {s t : TypeId} {x : Operand} {ok : Bool} (hop : o.op = .typeAssert x s t ok) {d : TypeDesc} (ht : P.underlying t = some d) (hd : ∀ ms, d ≠ .interface ms) {z : DV} (hz : zq P t = some z) {r : PV}
  (h : (match r with
  | .d (.ifc u v) => if u = t then some (if ok then PV.t [.d v, .d (.b true)] else .d v, H) else if ok then some (.t [.d z, .d (.b false)], H) else none
  | .w u v => if u = t then some (if ok then PV.t [v, .d (.b true)] else v, H) else if ok then some (.t [.d z, .d (.b false)], H) else none
  | .d .ni => if ok then some (.t [.d z, .d (.b false)], H) else none
  | _ => none) = some (v, H')) (hx : RelV C w S β r (a.eval x)) (hH : HOK C B w S β H) (hS : Swf w S) (hp : OpPost C B w S β H id v H' fun u w' => next (a.put o.dst u) w') : o.wpIn (FR ro) nf P a w next Q := by
 obtain ⟨k, zv, -, hzv, -, hzr⟩ := zq_rel hz
 have pair : ∀ {x y : PV} {u z : Value}, RelV C w S β x u → RelV C w S β y z → RelV C w S β (.t [x, y]) (.tuple #[u, z]) := by
  intro x y u z h1 h2
  refine .t [x, y] [u, z] rfl fun j hj hj' => ?_
  match j, hj with
  | 0, _ => exact h1
  | 1, _ => exact h2
 have fails : ok = true → v = .t [.d z, .d (.b false)] → H' = H → ((execOp a.eval o).run P w = .ok (.value (.tuple #[zv, .bool false])) w) → o.wpIn (FR ro) nf P a w next Q := by
  rintro - rfl rfl hr
  exact wp_value hnd hr (hp.same hH hS (pair (.d _ _ (hzr w S)) (.d _ _ (.b false))))
 split at h
 ·rename_i u1 y hx
  obtain ⟨yv, hax, hy⟩ := ifc_rel hx
  split at h
  ·rename_i hut
   subst hut
   simp only [Option.some.injEq, Prod.mk.injEq] at h
   obtain ⟨rfl, rfl⟩ := h
   cases ok with
   | true =>
    refine wp_value hnd (u := .tuple #[yv, .bool true]) ?_ (hp.same hH hS (pair (.d _ _ hy) (.d _ _ (.b true))))
    simp only [execOp, hop, hax]
    refine run_v ?_
    simp only [Instr.typeAssert, Sem.run_bind, run_und ht, Result.andThen_ok]
    cases d <;> first | exact absurd rfl (hd _) | (simp)
   | false =>
    refine wp_value hnd (u := yv) ?_ (hp.same hH hS (.d _ _ hy))
    simp only [execOp, hop, hax]
    refine run_v ?_
    simp only [Instr.typeAssert, Sem.run_bind, run_und ht, Result.andThen_ok]
    cases d <;> first | exact absurd rfl (hd _) | (simp)
  ·rename_i hut
   split at h
   ·rename_i hok
    subst hok
    simp only [Option.some.injEq, Prod.mk.injEq] at h
    refine fails rfl h.1.symm h.2.symm ?_
    simp only [execOp, hop, hax]
    refine run_v ?_
    simp only [Instr.typeAssert, Sem.run_bind, run_und ht, Result.andThen_ok]
    cases d <;> first | exact absurd rfl (hd _) | (simp [hut, run_zero hzv])
   ·cases h
 ·rename_i u1 y hx
  obtain ⟨yv, hax, hy⟩ := w_rel hx
  split at h
  ·rename_i hut
   subst hut
   simp only [Option.some.injEq, Prod.mk.injEq] at h
   obtain ⟨rfl, rfl⟩ := h
   cases ok with
   | true =>
    refine wp_value hnd (u := .tuple #[yv, .bool true]) ?_ (hp.same hH hS (pair hy (.d _ _ (.b true))))
    simp only [execOp, hop, hax]
    refine run_v ?_
    simp only [Instr.typeAssert, Sem.run_bind, run_und ht, Result.andThen_ok]
    cases d <;> first | exact absurd rfl (hd _) | (simp)
   | false =>
    refine wp_value hnd (u := yv) ?_ (hp.same hH hS hy)
    simp only [execOp, hop, hax]
    refine run_v ?_
    simp only [Instr.typeAssert, Sem.run_bind, run_und ht, Result.andThen_ok]
    cases d <;> first | exact absurd rfl (hd _) | (simp)
  ·rename_i hut
   split at h
   ·rename_i hok
    subst hok
    simp only [Option.some.injEq, Prod.mk.injEq] at h
    refine fails rfl h.1.symm h.2.symm ?_
    simp only [execOp, hop, hax]
    refine run_v ?_
    simp only [Instr.typeAssert, Sem.run_bind, run_und ht, Result.andThen_ok]
    cases d <;> first | exact absurd rfl (hd _) | (simp [hut, run_zero hzv])
   ·cases h
 ·rename_i hx
  have hax := ni_rel hx
  split at h
  ·rename_i hok
   subst hok
   simp only [Option.some.injEq, Prod.mk.injEq] at h
   refine fails rfl h.1.symm h.2.symm ?_
   simp only [execOp, hop, hax]
   refine run_v ?_
   simp only [Instr.typeAssert, Sem.run_bind, run_und ht, Result.andThen_ok]
   cases d <;> first | exact absurd rfl (hd _) | (simp [run_zero hzv])
  ·cases h
 ·cases h
def nilVal : Nat → Value
 | 0 => .nilIface
 | 1 => .pointer none
 | 2 => .map none
 | 3 => .nilFunc
 | _ => .slice none 0 0
theorem nilA_rel {kd : Nat} {d : TypeDesc} (hkd : kNil d = some kd) {r : PV} {u : Value} (hx : RelV C w S β r u) {b : Bool} (h : nilA kd r = some b) :
  (∃ ms, d = .interface ms ∧ nilVal kd = .nilIface ∧ ((b = true ∧ u = .nilIface) ∨ (b = false ∧ ∃ t x, u = .iface t x))) ∨ (∃ e, d = .pointer e ∧ nilVal kd = .pointer none ∧ ((b = true ∧ u = .pointer none) ∨ (b = false ∧ ∃ p, u = .pointer (some p)))) ∨
  (∃ k e, d = .map k e ∧ nilVal kd = .map none ∧ b = true ∧ u = .map none) ∨ (∃ ps rs vr, d = .func ps rs vr ∧ nilVal kd = .nilFunc ∧ ((b = true ∧ u = .nilFunc) ∨ (b = false ∧ ∃ f x y, u = .func f x y))) ∨ (∃ e, d = .slice e ∧ nilVal kd = .slice none 0 0 ∧ b = false ∧ ∃ ad l c, u = .slice (some ad) l c) := by
 unfold kNil at hkd
 split at hkd <;> first | (cases hkd; done) | skip
 all_goals cases hkd
 ·unfold nilA at h
  split at h <;> first | (cases h; done) | skip
  all_goals first | (rename_i heq; cases heq; done) | skip
  ·cases h; cases hx with | d _ _ hx => cases hx; exact .inl ⟨_, rfl, rfl, .inl ⟨rfl, rfl⟩⟩
  ·cases h; cases hx with | d _ _ hx => cases hx; exact .inl ⟨_, rfl, rfl, .inr ⟨rfl, _, _, rfl⟩⟩
  ·cases h; cases hx; exact .inl ⟨_, rfl, rfl, .inr ⟨rfl, _, _, rfl⟩⟩
 ·unfold nilA at h
  split at h <;> first | (cases h; done) | skip
  all_goals first | (rename_i heq; cases heq; done) | skip
  ·cases h; cases hx with | d _ _ hx => cases hx; exact .inr (.inl ⟨_, rfl, rfl, .inl ⟨rfl, rfl⟩⟩)
  ·cases h
   cases hx with
   | p _ _ _ _ _ hp =>
    unfold RelPt at hp
    split at hp
    ·exact hp.elim
    ·obtain ⟨blk, off, rfl⟩ := hp; exact .inr (.inl ⟨_, rfl, rfl, .inr ⟨rfl, _, rfl⟩⟩)
    ·exact hp.elim
    ·subst hp; exact .inr (.inl ⟨_, rfl, rfl, .inr ⟨rfl, _, rfl⟩⟩)
    ·exact hp.elim
  ·cases h; cases hx; exact .inr (.inl ⟨_, rfl, rfl, .inr ⟨rfl, _, rfl⟩⟩)
 ·unfold nilA at h
  split at h <;> first | (cases h; done) | skip
  all_goals first | (rename_i heq; cases heq; done) | skip
  ·cases h; cases hx with | d _ _ hx => cases hx; exact .inr (.inr (.inl ⟨_, _, rfl, rfl, rfl, rfl⟩))
 ·unfold nilA at h
  split at h <;> first | (cases h; done) | skip
  all_goals first | (rename_i heq; cases heq; done) | skip
  ·cases h; cases hx with | d _ _ hx => cases hx; exact .inr (.inr (.inr (.inl ⟨_, _, _, rfl, rfl, .inl ⟨rfl, rfl⟩⟩)))
  ·cases h; cases hx; exact .inr (.inr (.inr (.inl ⟨_, _, _, rfl, rfl, .inr ⟨rfl, _, _, _, rfl⟩⟩)))
  ·cases h; cases hx; exact .inr (.inr (.inr (.inl ⟨_, _, _, rfl, rfl, .inr ⟨rfl, _, _, _, rfl⟩⟩)))
 ·unfold nilA at h
  split at h <;> first | (cases h; done) | skip
  all_goals first | (rename_i heq; cases heq; done) | skip
  ·cases h
   cases hx with
   | d _ _ hx =>
    cases hx with
    | l _ _ _ ad cap blk off c c1 c2 c3 c4 c5 =>
     have := c3 (by simp)
     subst this
     exact .inr (.inr (.inr (.inr ⟨_, rfl, rfl, rfl, _, _, _, rfl⟩)))
theorem nilD_rel {kd : Nat} {t : Option TypeId} {y : Operand} {r : Rand} (hr : rand P N t y = some r) (h : nilD kd r = true) : ∃ v, y = .const v ∧ v = nilVal kd := by
 cases y with
 | tmp n => cases hr; simp [nilD] at h
 | global g => cases hr; simp [nilD] at h
 | func f =>
  simp only [rand, Option.map_eq_some_iff] at hr
  obtain ⟨x, -, rfl⟩ := hr
  simp [nilD] at h
 | const v =>
  refine ⟨v, rfl, ?_⟩
  simp only [rand, Option.map_eq_some_iff] at hr
  obtain ⟨z, hz, rfl⟩ := hr
  unfold conD at hz
  split at hz
  ·split at hz
   ·simp only [Option.map_eq_some_iff] at hz
    obtain ⟨l, -, rfl⟩ := hz
    simp [nilD] at h
   ·cases hz
  ·unfold conC at hz
   split at hz <;> first | (cases hz; done) | skip
   all_goals cases hz
   all_goals
    unfold nilD at h
    split at h <;> first | (cases h; done) | (rename_i heq; cases heq; done) | rfl
theorem isnil_run {op : BinOp} (hop : op = .eql ∨ op = .neq) {t : TypeId} {x y : Operand} {p q : Value} {b : Bool} (hg : (eqGuard op t x y p q).run P w = .ok () w) (he : (Op.equal t p q).run P w = .ok b w)
  (h1 : binOp .eql t p q = (do pure (.bool (← Op.equal t p q)))) (h2 : binOp .neq t p q = (do pure (.bool (!(← Op.equal t p q))))) :
  (do eqGuard op t x y p q; binOp op t p q : Sem Value).run P w = .ok (.bool (if op == .neq then !b else b)) w := by
 rw [Sem.run_bind, hg]
 simp only [Result.andThen_ok]
 rcases hop with rfl | rfl
 ·rw [h1, Sem.run_bind, he]; rfl
 ·rw [h2, Sem.run_bind, he]; rfl
theorem run_isnil {op : BinOp} (hop : op = .eql ∨ op = .neq) {t : TypeId} {x y : Operand} {r : PV} {u : Value} (hx : RelV C w S β r u) {b : Bool} {kd : Nat} {d : TypeDesc} (hkd : kNil d = some kd) (h : nilA kd r = some b) (ht : P.underlying t = some d) :
  ((∃ c, y = .const c) → (do eqGuard op t x y u (nilVal kd); binOp op t u (nilVal kd) : Sem Value).run P w = .ok (.bool (if op == .neq then !b else b)) w) ∧ ((∃ c, x = .const c) → (do eqGuard op t x y (nilVal kd) u; binOp op t (nilVal kd) u : Sem Value).run P w = .ok (.bool (if op == .neq then !b else b)) w) := by
 have hb := nilA_rel hkd hx h
 have G : ∀ p q : Value, (p ≠ .nilIface ∨ q ≠ .nilIface ∨ (∃ c, y = .const c) ∨ ∃ c, x = .const c) → (∀ c, p ≠ .agg c) → (eqGuard op t x y p q).run P w = .ok () w := by
  intro p q hpq hag
  rcases hop with rfl | rfl
  all_goals
   unfold eqGuard
   simp only [Bool.not_true, Bool.false_eq_true, if_false]
   split
   ·rcases hpq with h | h | ⟨c, rfl⟩ | ⟨c, rfl⟩
    ·exact absurd rfl h
    ·exact absurd rfl h
    ·simp
    ·simp
   ·exact absurd rfl (hag _)
   ·rfl
 rcases hb with ⟨ms, rfl, hn, hu⟩ | ⟨e, rfl, hn, hu⟩ | ⟨k, e, rfl, hn, rfl, rfl⟩ | ⟨ps, rs, vr, rfl, hn, hu⟩ | ⟨e, rfl, hn, rfl, ad, l, c, rfl⟩
 all_goals rw [hn]
 ·rcases hu with ⟨rfl, rfl⟩ | ⟨rfl, tt, xx, rfl⟩
  ·have he : (Op.equal t .nilIface .nilIface).run P w = .ok true w := by simp only [Op.equal, Op.maxDepth]; unfold Op.equalIn; simp [run_und ht]
   exact ⟨fun hc => isnil_run hop (G _ _ (.inr (.inr (.inl hc))) (fun c h => by cases h)) he rfl rfl, fun hc => isnil_run hop (G _ _ (.inr (.inr (.inr hc))) (fun c h => by cases h)) he rfl rfl⟩
  ·have he : (Op.equal t (.iface tt xx) .nilIface).run P w = .ok false w := by simp only [Op.equal, Op.maxDepth]; unfold Op.equalIn; simp [run_und ht]
   have he' : (Op.equal t .nilIface (.iface tt xx)).run P w = .ok false w := by simp only [Op.equal, Op.maxDepth]; unfold Op.equalIn; simp [run_und ht]
   exact ⟨fun _ => isnil_run hop (G _ _ (.inl (by simp)) (fun c h => by cases h)) he rfl rfl, fun _ => isnil_run hop (G _ _ (.inr (.inl (by simp))) (fun c h => by cases h)) he' rfl rfl⟩
 ·rcases hu with ⟨rfl, rfl⟩ | ⟨rfl, p, rfl⟩
  ·have he : (Op.equal t (.pointer none) (.pointer none)).run P w = .ok true w := by simp only [Op.equal, Op.maxDepth]; unfold Op.equalIn; simp [run_und ht]
   exact ⟨fun _ => isnil_run hop (G _ _ (.inl (by simp)) (fun c h => by cases h)) he rfl rfl, fun _ => isnil_run hop (G _ _ (.inl (by simp)) (fun c h => by cases h)) he rfl rfl⟩
  ·have he : (Op.equal t (.pointer (some p)) (.pointer none)).run P w = .ok false w := by simp only [Op.equal, Op.maxDepth]; unfold Op.equalIn; simp [run_und ht]
   have he' : (Op.equal t (.pointer none) (.pointer (some p))).run P w = .ok false w := by simp only [Op.equal, Op.maxDepth]; unfold Op.equalIn; simp [run_und ht]
   exact ⟨fun _ => isnil_run hop (G _ _ (.inl (by simp)) (fun c h => by cases h)) he rfl rfl, fun _ => isnil_run hop (G _ _ (.inl (by simp)) (fun c h => by cases h)) he' rfl rfl⟩
 ·have he : (Op.equal t (.map none) (.map none)).run P w = .ok true w := by simp only [Op.equal, Op.maxDepth]; unfold Op.equalIn; simp [run_und ht]
  exact ⟨fun _ => isnil_run hop (G _ _ (.inl (by simp)) (fun c h => by cases h)) he rfl rfl, fun _ => isnil_run hop (G _ _ (.inl (by simp)) (fun c h => by cases h)) he rfl rfl⟩
 ·rcases hu with ⟨rfl, rfl⟩ | ⟨rfl, ff, xx, yy, rfl⟩
  ·have he : (Op.equal t .nilFunc .nilFunc).run P w = .ok true w := by simp only [Op.equal, Op.maxDepth]; unfold Op.equalIn; simp [run_und ht]
   exact ⟨fun _ => isnil_run hop (G _ _ (.inl (by simp)) (fun c h => by cases h)) he rfl rfl, fun _ => isnil_run hop (G _ _ (.inl (by simp)) (fun c h => by cases h)) he rfl rfl⟩
  ·have he : (Op.equal t (.func ff xx yy) .nilFunc).run P w = .ok false w := by simp only [Op.equal, Op.maxDepth]; unfold Op.equalIn; simp [run_und ht]
   have he' : (Op.equal t .nilFunc (.func ff xx yy)).run P w = .ok false w := by simp only [Op.equal, Op.maxDepth]; unfold Op.equalIn; simp [run_und ht]
   exact ⟨fun _ => isnil_run hop (G _ _ (.inl (by simp)) (fun c h => by cases h)) he rfl rfl, fun _ => isnil_run hop (G _ _ (.inl (by simp)) (fun c h => by cases h)) he' rfl rfl⟩
 ·have he : (Op.equal t (.slice (some ad) l c) (.slice none 0 0)).run P w = .ok false w := by simp only [Op.equal, Op.maxDepth]; unfold Op.equalIn; simp [run_und ht]
  have he' : (Op.equal t (.slice none 0 0) (.slice (some ad) l c)).run P w = .ok false w := by simp only [Op.equal, Op.maxDepth]; unfold Op.equalIn; simp [run_und ht]
  exact ⟨fun _ => isnil_run hop (G _ _ (.inl (by simp)) (fun c h => by cases h)) he rfl rfl, fun _ => isnil_run hop (G _ _ (.inl (by simp)) (fun c h => by cases h)) he' rfl rfl⟩
theorem sp_map (hH : HOK C B w S β H) {oo : Nat} {u : Value} (hx : RelV C w S β (.h oo) u) {y : Obj} (ho : H.obj oo = some y) : ∃ blk x, β oo = .sp blk x ∧ SpOK w S blk x y ∧ ((x = .map ∧ u = .map (some blk)) ∨ (x = .iter ∧ u = .pointer (some ⟨blk, 0, none⟩)) ∨ ∃ r, x = .loop r ∧ u = .func (.yield blk) #[] #[]) := by
 cases hx with
 | h _ _ _ hh =>
  unfold RelH at hh
  split at hh
  ·rename_i hb; rw [hH.dead _ hb] at ho; cases ho
  ·rename_i blk hb
   obtain ⟨-, y', g1, g2⟩ := hH.sp _ _ _ hb
   rw [ho] at g1; cases g1
   exact ⟨blk, _, hb, g2, .inl ⟨rfl, hh⟩⟩
  ·rename_i blk hb
   obtain ⟨-, y', g1, g2⟩ := hH.sp _ _ _ hb
   rw [ho] at g1; cases g1
   exact ⟨blk, _, hb, g2, .inr (.inl ⟨rfl, hh⟩)⟩
  ·rename_i blk r hb
   obtain ⟨-, y', g1, g2⟩ := hH.sp _ _ _ hb
   rw [ho] at g1; cases g1
   exact ⟨blk, _, hb, g2, .inr (.inr ⟨r, rfl, hh⟩)⟩
  ·exact hh.elim
theorem map_at (hH : HOK C B w S β H) {oo : Nat} {u : Value} (hx : RelV C w S β (.h oo) u) {es : List (DV × DV)} (ho : H.obj oo = some (.mp es)) : ∃ blk ms clock, β oo = .sp blk .map ∧ u = .map (some blk) ∧ w.heap[blk]? = some (.map ms clock) ∧ ML w S es ms.toList := by
 obtain ⟨blk, x, h1, h2, h3⟩ := sp_map hH hx ho
 rcases h3 with ⟨rfl, rfl⟩ | ⟨rfl, -⟩ | ⟨r, rfl, -⟩
 ·obtain ⟨ms, clock, q1, q2⟩ := h2
  exact ⟨blk, ms, clock, h1, rfl, q1, mrel_iff.1 q2⟩
 ·exact h2.elim
 ·exact h2.elim
theorem iter_at (hH : HOK C B w S β H) {oo : Nat} {u : Value} (hx : RelV C w S β (.h oo) u) {l : List UInt8} {pos : Nat} (ho : H.obj oo = some (.si l pos)) : ∃ blk, ∃ z : ByteArray, β oo = .sp blk .iter ∧ u = .pointer (some ⟨blk, 0, none⟩) ∧ w.heap[blk]? = some (.stringIter z pos) ∧ z.data.toList = l := by
 obtain ⟨blk, x, h1, h2, h3⟩ := sp_map hH hx ho
 rcases h3 with ⟨rfl, rfl⟩ | ⟨rfl, rfl⟩ | ⟨r, rfl, -⟩
 ·exact h2.elim
 ·obtain ⟨z, q1, q2⟩ := h2
  exact ⟨blk, z, h1, rfl, q2, q1⟩
 ·exact h2.elim
def scKind : TypeDesc → DV → Bool
 | .bool, .b _ => true
 | .string, .s _ => true
 | .int k, .i k' _ => k == k'
 | _, _ => false
theorem kyOf_spec {d : TypeDesc} {ky : Ky} (h : kyOf d = some ky) {k : DV} (hk : kyOK ky k = true) : scKind d k = true := by
 unfold kyOf at h
 split at h <;> first | (cases h; done) | skip
 all_goals
  cases h
  unfold kyOK at hk
  split at hk <;> first | (cases hk; done) | (rename_i heq _; cases heq; done) | skip
  all_goals first | rfl | (rename_i heq; cases heq; exact hk) | (rename_i heq _ ; cases heq; exact hk) | simp_all
theorem key_rel {d : TypeDesc} {k : DV} {u : Value} (h : scKind d k = true) (hk : RelD w S k u) : ScKey d ∧ MapKept.IsKey d u := by
 unfold scKind at h
 split at h
 ·cases hk; exact ⟨.inl rfl, trivial⟩
 ·cases hk; exact ⟨.inr (.inl rfl), trivial⟩
 ·simp only [beq_iff_eq] at h
  subst h
  cases hk
  exact ⟨.inr (.inr ⟨_, rfl⟩), rfl⟩
 ·cases h
theorem new_sp (hH : HOK C B w S β H) (hS : Swf w S) (hB : B ≤ w.heap.size) (hid : β id = .pend ∧ id < H.length) {ob : Go.Obj} {x : Sp} {y : Obj} (hy : SpOK (w.alloc ob) S w.heap.size x y) {u : Value} (hu : RelH (upd β id (.sp w.heap.size x)) id u) (hfl : flat u)
  (hp : OpPost C B w S β H id (.h id) (H.put id (some y)) fun u w' => next (a.put o.dst u) w') : next (a.put o.dst u) (w.alloc ob) := by
 obtain ⟨h1, h2⟩ := hok_newsp hH hS hB hid.1 hid.2 hy
 exact hp u _ S _ (alloc_ext hS hB ob) (hS.ext (alloc_ext (B := B) hS hB ob)) h1 h2 (.h _ _ hfl hu) (by rw [put_length]; exact Nat.le_refl _) (kp_upd _ _ _ _)
theorem op_mkmap (hnd : ∀ c, o.op ≠ .defer c) {t : TypeId} (hop : o.op = .makeMap t none) (hH : HOK C B w S β H) (hS : Swf w S) (hB : B ≤ w.heap.size) (hid : β id = .pend ∧ id < H.length)
  (hp : OpPost C B w S β H id (.h id) (H.put id (some (.mp []))) fun u w' => next (a.put o.dst u) w') : o.wpIn (FR ro) nf P a w next Q := by
 refine wp_value hnd (u := .map (some w.heap.size)) (w' := w.alloc (.map #[] 0)) ?_ (new_sp hH hS hB hid (x := .map) ?_ ?_ rfl hp)
 ·simp only [execOp, hop]
  exact run_v (by simp [Instr.makeMap])
 ·exact ⟨#[], 0, by show (w.heap.push _)[w.heap.size]? = _; simp, ⟨rfl, fun j h => absurd h (Nat.not_lt_zero _)⟩⟩
 ·unfold RelH; rw [upd_same]
theorem op_rngS (hnd : ∀ c, o.op ≠ .defer c) {t : TypeId} {x : Operand} (hop : o.op = .range t x) (ht : P.underlying t = some .string) {l : List UInt8} (hx : RelV C w S β (.d (.s l)) (a.eval x)) (hH : HOK C B w S β H) (hS : Swf w S) (hB : B ≤ w.heap.size) (hid : β id = .pend ∧ id < H.length)
  (hp : OpPost C B w S β H id (.h id) (H.put id (some (.si l 0))) fun u w' => next (a.put o.dst u) w') : o.wpIn (FR ro) nf P a w next Q := by
 obtain ⟨z, hax, hz⟩ := s_rel hx
 refine wp_value hnd (u := .pointer (some ⟨w.heap.size, 0, none⟩)) (w' := w.alloc (.stringIter z 0)) ?_ (new_sp hH hS hB hid (x := .iter) ?_ ?_ rfl hp)
 ·simp only [execOp, hop, hax]
  exact run_v (by simp [Instr.range, run_und ht])
 ·exact ⟨z, hz, by show (w.heap.push _)[w.heap.size]? = _; simp⟩
 ·unfold RelH; rw [upd_same]
theorem op_nxt (hnd : ∀ c, o.op ≠ .defer c) {x : Operand} (hop : o.op = .next x true) {oo : Nat} (hx : RelV C w S β (.h oo) (a.eval x)) {l : List UInt8} {pos : Nat} (ho : H.obj oo = some (.si l pos)) (hH : HOK C B w S β H) (hS : Swf w S)
  (h : (if pos < l.length then some (PV.t [.d (.b true), .d (.i .i64 pos), .d (.i .i32 (Utf8.decode ⟨l.toArray⟩ pos).1)], H.put oo (some (.si l (pos + (Utf8.decode ⟨l.toArray⟩ pos).2)))) else some (.t [.d (.b false)], H)) = some (v, H'))
  (hp : OpPost C B w S β H id v H' fun u w' => next (a.put o.dst u) w') : o.wpIn (FR ro) nf P a w next Q := by
 obtain ⟨blk, z, h1, h2, h3, h4⟩ := iter_at hH hx ho
 have hzl : z.size = l.length := by subst h4; simp
 have hze : (⟨l.toArray⟩ : ByteArray) = z := by subst h4; rfl
 have hg : (getObj blk).run P w = .ok (.stringIter z pos) w := by simp [getObj, Sem.run, h3]
 split at h
 ·rename_i hlt
  simp only [Option.some.injEq, Prod.mk.injEq] at h
  obtain ⟨rfl, rfl⟩ := h
  have hlt' : pos < z.size := by omega
  have hsz : blk < w.heap.size := (Array.getElem?_eq_some_iff.1 h3).1
  obtain ⟨e1, e2⟩ := setsp hH hS h1 (.stringIter z (pos + (Utf8.decode z pos).2)) (y' := .si l (pos + (Utf8.decode z pos).2)) ⟨z, h4, World.putObj_heap_same hsz⟩
  rw [hze] at hp
  have hs : (setObj blk (.stringIter z (pos + (Utf8.decode z pos).2))).run P w = .ok () (w.putObj blk (.stringIter z (pos + (Utf8.decode z pos).2))) := by simp [setObj, Sem.run, h3, World.putObj]
  refine wp_value hnd (u := .tuple #[.bool true, .int .i64 pos, .int .i32 (Utf8.decode z pos).1]) ?_ (hp _ _ S β e1 (hS.ext e1) e2 (Later.refl _) ?_ (by rw [put_length]; exact Nat.le_refl _) (Kp.refl _ _ _))
  ·simp only [execOp, hop, h2]
   refine run_v ?_
   simp only [Instr.next, Sem.run_bind, hg, Result.andThen_ok, hlt', if_true, hs, Sem.run_pure, goInt]
  ·refine .t _ [.bool true, .int .i64 pos, .int .i32 (Utf8.decode z pos).1] rfl fun j hj hj' => ?_
   match j, hj with
   | 0, _ => exact .d _ _ (.b true)
   | 1, _ => exact .d _ _ (.i _ _)
   | 2, _ => exact .d _ _ (.i _ _)
 ·rename_i hlt
  simp only [Option.some.injEq, Prod.mk.injEq] at h
  obtain ⟨rfl, rfl⟩ := h
  have hlt' : ¬ pos < z.size := by omega
  refine wp_value hnd (u := .tuple #[.bool false]) ?_ (hp.same hH hS (.t _ [.bool false] rfl fun j hj hj' => ?_))
  ·simp only [execOp, hop, h2]
   refine run_v ?_
   simp only [Instr.next, Sem.run_bind, hg, Result.andThen_ok, hlt', if_false, Sem.run_pure]
  ·match j, hj with
   | 0, _ => exact .d _ _ (.b false)
theorem op_mget (hnd : ∀ c, o.op ≠ .defer c) {t kt et : TypeId} {x i : Operand} {ok : Bool} (hop : o.op = .lookup t x i ok) (ht : P.underlying t = some (.map kt et)) {d : TypeDesc} (hkt : P.underlying kt = some d) {z : DV} (hz : zq P et = some z) {oo : Nat} {k : DV} (hsc : scKind d k = true)
  (hx : RelV C w S β (.h oo) (a.eval x)) (hi : RelV C w S β (.d k) (a.eval i)) {es : List (DV × DV)} (ho : H.obj oo = some (.mp es)) (hH : HOK C B w S β H) (hS : Swf w S) {r : Option DV} (hr : getK k es = some r)
  (hp : OpPost C B w S β H id (if ok then .t [.d (r.getD z), .d (.b r.isSome)] else .d (r.getD z)) H fun u w' => next (a.put o.dst u) w') : o.wpIn (FR ro) nf P a w next Q := by
 obtain ⟨blk, ms, clock, h1, h2, h3, h4⟩ := map_at hH hx ho
 obtain ⟨-, zv, -, hzv, -, hzr⟩ := zq_rel hz
 have hk : RelD w S k (a.eval i) := by cases hi with | d _ _ hk => exact hk
 obtain ⟨hsk, hik⟩ := key_rel hsc hk
 have hget := getK_rel hk hsk hik 0 h4 hr
 have hg := MapKept.run_getObj_map (P := P) h3
 have hck : ∀ e, (Instr.checkKey e 10000 kt (a.eval i)).run P w = .ok () w := fun e => MapKept.run_checkKey hkt hik e 9999
 have fin : ∀ (q : Value) (b : Bool) (y : DV), RelD w S y q → RelV C w S β (if ok then .t [.d y, .d (.b b)] else .d y) (if ok then .tuple #[q, .bool b] else q) := by
  intro q b y hy
  cases ok with
  | false => exact .d _ _ hy
  | true =>
   refine .t [.d y, .d (.b b)] [q, .bool b] rfl fun j hj hj' => ?_
   match j, hj with
   | 0, _ => exact .d _ _ hy
   | 1, _ => exact .d _ _ (.b b)
 cases r with
 | none =>
  have hf := MapKept.run_findKey (w := w) hkt hget
  refine wp_value hnd (u := if ok then .tuple #[zv, .bool false] else zv) ?_ (hp.same hH hS (fin zv false z (hzr w S)))
  simp only [execOp, hop, h2]
  refine run_v ?_
  simp only [Instr.lookup, Sem.run_bind, run_und ht, Result.andThen_ok, hg, Sem.run_pure, hck, hf, run_zero hzv]
 | some y =>
  obtain ⟨j, q, hfn, hq⟩ := hget
  have hf := MapKept.run_findKey (w := w) hkt hfn
  refine wp_value hnd (u := if ok then .tuple #[q, .bool true] else q) ?_ (hp.same hH hS (fin q true y hq))
  simp only [execOp, hop, h2]
  refine run_v ?_
  simp only [Instr.lookup, Sem.run_bind, run_und ht, Result.andThen_ok, hg, Sem.run_pure, hck, hf]
theorem op_mset (hnd : ∀ c, o.op ≠ .defer c) {t kt et : TypeId} {x i y : Operand} (hop : o.op = .mapUpdate t x i y ∨ o.op = .insert t x i y) (ht : P.underlying t = some (.map kt et)) {d : TypeDesc} (hkt : P.underlying kt = some d) {oo : Nat} {k : DV} (hsc : scKind d k = true)
  (hx : RelV C w S β (.h oo) (a.eval x)) (hi : RelV C w S β (.d k) (a.eval i)) {yv : PV} (hy : RelV C w S β yv (a.eval y)) {xv : DV} {os : List Nat} (hpu : pur H yv = some (xv, os)) {es es' : List (DV × DV)} (ho : H.obj oo = some (.mp es)) (hH : HOK C B w S β H) (hS : Swf w S) (hr : putK k xv es = some es')
  (hp : OpPost C B w S β H id .u ((frz H os).put oo (some (.mp es'))) fun u w' => next (a.put o.dst u) w') : o.wpIn (FR ro) nf P a w next Q := by
 obtain ⟨blk, ms, clock, h1, h2, h3, h4⟩ := map_at hH hx ho
 have hk : RelD w S k (a.eval i) := by cases hi with | d _ _ hk => exact hk
 obtain ⟨hsk, hik⟩ := key_rel hsc hk
 have hext := freeze_ext hH os
 have hyr := pur_rel hH hy hpu
 have hH1 := freeze_hok hH os
 have hS1 := freeze_swf hH hS os
 have ho1 : (frz H os).obj oo = some (.mp es) := by rw [frz_obj, ho]; rfl
 have hm1 : ML w (FSq β H os S) es ms.toList := mrel_iff.1 ((mrel_iff.2 h4).ext hext)
 have hg := MapKept.run_getObj_map (P := P) h3
 have hck : (Instr.checkKey false 10000 kt (a.eval i)).run P w = .ok () w := MapKept.run_checkKey hkt hik false 9999
 have hsz : blk < w.heap.size := (Array.getElem?_eq_some_iff.1 h3).1
 have setr : ∀ ob : Go.Obj, (setObj blk ob).run P w = .ok () (w.putObj blk ob) := fun ob => by simp [setObj, Sem.run, h3, World.putObj]
 have fin : ∀ (ms' : Array MapEntry) (clock' : Nat), ML w (FSq β H os S) es' ms'.toList → (Instr.mapUpdate t (.map (some blk)) (a.eval i) (a.eval y)).run P w = .ok () (w.putObj blk (.map ms' clock')) → o.wpIn (FR ro) nf P a w next Q := by
  intro ms' clock' hm hrun
  have hyo : SpOK (w.putObj blk (.map ms' clock')) (FSq β H os S) blk .map (.mp es') := by
   refine ⟨ms', clock', World.putObj_heap_same hsz, ?_⟩
   have hext0 := put_ext (B := 0) hS1 (Nat.zero_le _) h3 (fun _ _ _ h => by cases h) (.map ms' clock')
   exact (mrel_iff.2 hm).ext hext0
  obtain ⟨e1, e2⟩ := setsp hH1 hS1 h1 (.map ms' clock') hyo
  refine wp_opskip hnd (w' := w.putObj blk (.map ms' clock')) ?_ (hp _ _ _ β (hext.trans e1) (hS1.ext e1) e2 (Later.refl _) (.u _) (by rw [put_length, frz_length]; exact Nat.le_refl _) (Kp.refl _ _ _))
  rcases hop with hop | hop
  ·simp only [execOp, hop, h2]; exact run_u hrun
  ·simp only [execOp, hop, h2]; exact run_u hrun
 rcases putK_rel (hk.ext hext) hyr hsk hik clock 0 hm1 hr with ⟨g1, g2⟩ | ⟨j, v', g1, ⟨e, g2, g3⟩, g4⟩
 ·have hf := MapKept.run_findKey (w := w) hkt g1
  refine fin (ms.push { key := a.eval i, val := a.eval y, born := clock }) (clock + 1) (by simpa using g2) ?_
  simp only [Instr.mapUpdate, Sem.run_bind, run_und ht, Result.andThen_ok, hg, hck, hf, setr]
 ·have hf := MapKept.run_findKey (w := w) hkt g1
  simp only [Nat.zero_add] at hf
  have hks : (Instr.keyThatStays e.key (a.eval i)).run P w = .ok (a.eval i) w := run_keyStays hsk g3
  have hej : ms[j]? = some e := by simpa using g2
  refine fin (ms.modify j fun e => { e with key := a.eval i, val := a.eval y }) clock ?_ ?_
  ·have := g4 (a.eval i) (.inl (hk.ext hext))
   simpa using this
  ·simp only [Instr.mapUpdate, Sem.run_bind, run_und ht, Result.andThen_ok, hg, hck, hf, hej, Option.map_some, Option.getD_some, hks, setr]
theorem run_invoke_iface {t : TypeId} {y : Value} {name : String} {args : Array Value} {i : TypeInfo} (hi : P.info? t = some i) {m : Method} (hm : i.methods.find? (·.name == name) = some m) (hpath : m.path = #[]) {f : FuncId} (hf : m.func = some (f, false)) {d : TypeDesc} (ht : P.underlying t = some d) (hnp : ∀ e, d ≠ .pointer e) {fn : Func} (hfn : P.funcs[f]? = some fn) (hb : fn.body.isNone = false) (hn : fn.name ≠ "runtime.NumGoroutine") :
  (callMethod (.iface t y) name args).run P w = .ok (.enter f (#[y] ++ args)) w := by
 have hrecv : ∀ z, (receiverAt t (.val y) false z).run P w = .ok y w := by
  intro z
  unfold receiverAt
  simp only [Sem.run_bind, run_und ht, Result.andThen_ok]
  cases d <;> first | exact absurd rfl (hnp _) | (simp [Place.get])
 have htI : (typeInfo t).run P w = .ok i w := by simp [typeInfo, hi]
 have hmeth : ∀ n, (method (n + 1) t y name).run P w = .ok (f, y) w := by
  intro n
  unfold method
  simp only [Sem.run_bind, htI, Result.andThen_ok, hm, hpath, hf]
  simp [follow, hrecv]
 simp only [callMethod, Sem.run_bind, run_program, Result.andThen_ok]
 have : P.types.size + Made.depth = (P.types.size + Made.depth - 1) + 1 := by simp [Made.depth]
 rw [this, hmeth]
 simp only [Result.andThen_ok]
 exact run_call_func hfn hb hn _
theorem invTab_spec {u : TypeId} {name : String} {md f : Nat} (h : lookT u (invTab P N name) = some (md, f)) : ∃ i m fid d fn, P.info? u = some i ∧ i.methods.find? (·.name == name) = some m ∧ m.path = #[] ∧ m.func = some (fid, false) ∧ P.underlying u = some d ∧ (∀ e, d ≠ .pointer e) ∧
  P.funcs[fid]? = some fn ∧ fn.body.isNone = false ∧ fn.name ≠ "runtime.NumGoroutine" ∧ N.f fid = some (f, md) := by
 have mem : ∀ l : List (Nat × Nat × Nat), lookT u l = some (md, f) → (u, md, f) ∈ l := by
  intro l
  induction l with
  | nil => intro h; cases h
  | cons x r ih =>
   obtain ⟨t, y⟩ := x
   intro hh
   simp only [lookT] at hh
   split at hh
   ·rename_i ht; subst ht; simp only [Option.some.injEq] at hh; subst hh; exact List.mem_cons_self ..
   ·exact List.mem_cons_of_mem _ (ih hh)
 have hm := mem _ h
 unfold invTab at hm
 obtain ⟨t, -, ht⟩ := List.mem_filterMap.1 hm
 split at ht
 ·rename_i i hi
  split at ht
  ·cases ht
  ·rename_i m d hnp hfind hund
   have hnp' : ∀ e, d ≠ .pointer e := fun e he => by subst he; exact hnp e rfl
   split at ht
   ·rename_i hp
    split at ht
    ·rename_i fid hfn
     split at ht
     ·rename_i fn hfun
      split at ht
      ·cases ht
      ·rename_i hb
       simp only [Option.map_eq_some_iff] at ht
       obtain ⟨x, hx, ht⟩ := ht
       cases ht
       simp only [Bool.or_eq_true, not_or, Bool.not_eq_true, beq_eq_false_iff_ne] at hb
       exact ⟨i, m, fid, d, fn, hi, hfind, hp, hfn, hund, hnp', hfun, hb.1, hb.2, hx⟩
     ·cases ht
    ·cases ht
   ·cases ht
  ·cases ht
 ·cases ht
theorem mmA_rel {mx : Bool} : ∀ {ys : List PV} {zs : List Value} {x r : PV} {u : Value}, RelV C w S β x u → ys.length = zs.length → (∀ j (h : j < ys.length) (h' : j < zs.length), RelV C w S β ys[j] zs[j]) → mmA mx x ys = some r →
  ∃ q, (zs.foldlM (if mx then Builtin.max2 else Builtin.min2) u).run P w = .ok q w ∧ RelV C w S β r q
 | [], [], x, r, u, hx, _, _, h => by
  simp only [mmA, Option.some.injEq] at h
  subst h
  exact ⟨u, rfl, hx⟩
 | y :: ys, z :: zs, x, r, u, hx, hl, hr, h => by
  simp only [mmA] at h
  split at h
  ·rename_i m hm
   obtain ⟨q, h1, h2⟩ := mm2_rel (P := P) hx (hr 0 (by simp) (by simp)) hm
   obtain ⟨q', h3, h4⟩ := mmA_rel (zs := zs) h2 (by simpa using hl) (fun j hj hj' => hr (j + 1) (by simpa using hj) (by simpa using hj')) h
   refine ⟨q', ?_, h4⟩
   rw [List.foldlM_cons, Sem.run_bind]
   have : ((if mx then Builtin.max2 else Builtin.min2) u z).run P w = .ok q w := by cases mx <;> exact h1
   rw [this]
   exact h3
  ·cases h
 | [], _ :: _, _, _, _, _, hl, _, _ => by cases hl
 | _ :: _, [], _, _, _, _, hl, _, _ => by cases hl
theorem op_minmax (hnd : ∀ c, o.op ≠ .defer c) {c : Call} (hop : o.op = .call c) {mx : Bool} {b : Builtin} (hcal : c.callee = .builtin b) (hb : (b = .min ∧ mx = false) ∨ (b = .max ∧ mx = true)) (hargs : c.args.map a.eval = (c.args.toList.map a.eval).toArray) {xs : List PV} (r1 : xs.length = (c.args.toList.map a.eval).length)
  (r2 : ∀ j (h : j < xs.length) (h' : j < (c.args.toList.map a.eval).length), RelV C w S β xs[j] (c.args.toList.map a.eval)[j]) (hH : HOK C B w S β H) (hS : Swf w S)
  (h : (match xs with | v :: r => opt (mmA mx v r) H | [] => none) = some (v, H')) (hp : OpPost C B w S β H id v H' fun u w' => next (a.put o.dst u) w') : o.wpIn (FR ro) nf P a w next Q := by
 cases xs with
 | nil => cases h
 | cons x r =>
  simp only [opt] at h
  split at h
  ·rename_i m hm
   simp only [Option.some.injEq, Prod.mk.injEq] at h
   obtain ⟨rfl, rfl⟩ := h
   generalize c.args.toList.map a.eval = us at *
   cases us with
   | nil => simp at r1
   | cons u zs =>
    obtain ⟨q, h1, h2⟩ := mmA_rel (P := P) (zs := zs) (r2 0 (by simp) (by simp)) (by simpa using r1) (fun j hj hj' => r2 (j + 1) (by simpa using hj) (by simpa using hj')) hm
    refine wp_value hnd (u := q) ?_ (hp.same hH hS h2)
    rcases hb with ⟨rfl, rfl⟩ | ⟨rfl, rfl⟩
    ·simp only [execOp, hop, resolve, hcal, Sem.run_bind, Sem.run_pure, Result.andThen_ok, invoke, builtin, hargs, Builtin.min_]
     have h1 : (zs.foldlM Builtin.min2 u).run P w = .ok q w := h1
     simp only [h1, Result.andThen_ok]
    ·simp only [execOp, hop, resolve, hcal, Sem.run_bind, Sem.run_pure, Result.andThen_ok, invoke, builtin, hargs, Builtin.max_]
     have h1 : (zs.foldlM Builtin.max2 u).run P w = .ok q w := h1
     simp only [h1, Result.andThen_ok]
  ·cases h
theorem arr_cons (x : Value) (A : List Value) : (#[x] ++ A.toArray : Array Value) = (x :: A).toArray := by
 first | rfl | simp
theorem arr_tail (x : Value) (A : Array Value) : (#[x] ++ A).extract 1 (#[x] ++ A).size = A := by
 apply Array.ext
 ·simp
 ·intro i h1 h2
  simp
end
end Go.Sim
end
