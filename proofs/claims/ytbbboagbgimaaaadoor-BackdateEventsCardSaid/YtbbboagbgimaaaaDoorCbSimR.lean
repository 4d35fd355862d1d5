/- How the abstract machine's values stand for the values of the model in a world. -/
import Derived.Test.YtbbboagbgimaaaaDoorCbSimD
import Derived.Test.YtbbboagbgimaaaaDoorCbSimN
import Derived.Test.YtbbboagbgimaaaaDoorCbSimB
import Derived.Laws.Sem
import Derived.Below
open Go.RowKit
namespace Go.Sim
/-- Cells that nothing will write: block, place. -/
abbrev Stab := Nat → Nat → Prop
def flat (v : Value) : Prop := v.oneCell' = true
/-- A value of shape k with the cells c. -/
def mkV (k : K) (c : Nat → Value) : Value := match k with
  | none => c 0
  | some n => .agg ((List.range n).map c).toArray
def At (w : World) (S : Stab) (blk off n : Nat) (c : Nat → Value) : Prop :=
  ∀ m, m < n → w.cell? ⟨blk, off + m, none⟩ = some (c m) ∧ S blk (off + m) ∧ flat (c m)
inductive RelD (w : World) (S : Stab) : DV → Value → Prop
  | b (x : Bool) : RelD w S (.b x) (.bool x)
  | i (k : IntKind) (n : Int) : RelD w S (.i k n) (.int k n)
  | s (l : List UInt8) (x : ByteArray) : x.data.toList = l → RelD w S (.s l) (.string x)
  | np : RelD w S .np (.pointer none)
  | nf : RelD w S .nf .nilFunc
  | ni : RelD w S .ni .nilIface
  | nm : RelD w S .nm (.map none)
  | a (cs : List DV) (vs : List Value) : cs.length = vs.length → (∀ v ∈ vs, flat v) → (∀ j (h : j < cs.length) (h' : j < vs.length), RelD w S cs[j] vs[j]) → RelD w S (.a cs) (.agg vs.toArray)
  | l (k : K) (es : List DV) (t : Bool) (a : Option Addr) (cap : Nat) (blk off : Nat) (c : Nat → Nat → Value) :
      es.length ≤ cap → (t = true → cap = es.length) → (0 < es.length → a = some ⟨blk, off, none⟩) →
      (∀ j, j < es.length → At w S blk (off + j * k.size) k.size (c j)) →
      (∀ j (h : j < es.length), RelD w S es[j] (mkV k (c j))) → RelD w S (.l k es t) (.slice a es.length cap)
/-- What an object of the abstract heap is in the world. -/
inductive BO where
  | pend
  | dead
  | virt
  | at (blk off : Nat) (k : K)
abbrev Pl := Nat → BO
def RelRf (w : World) (β : Pl) (o : Nat) (k : K) (off len : Nat) (t : Bool) (v : Value) : Prop := match β o with
  | .pend => False
  | .dead => True
  | .virt => off = 0 ∧ len = 0 ∧ ∃ a, v = .slice a 0 0
  | .at blk base k' => k' = k ∧ ∃ cap a, v = .slice (some a) len cap ∧ (0 < cap → a = ⟨blk, base + off * k.size, none⟩) ∧ len ≤ cap ∧ (t = true → cap = len) ∧
      ∃ e n, w.shape? blk = some (e, n) ∧ base + (off + cap) * k.size ≤ n
def RelPt (β : Pl) (o i c : Nat) (v : Value) : Prop := match β o with
  | .pend => False
  | .dead => ∃ blk off, v = .pointer (some ⟨blk, off, none⟩)
  | .virt => False
  | .at blk base k => v = .pointer (some ⟨blk, base + i * k.size + c, none⟩)
structure Cx where
  μ : Nat → FuncId
inductive RelV (C : Cx) (w : World) (S : Stab) (β : Pl) : PV → Value → Prop
  | u (v : Value) : RelV C w S β .u v
  | d (x : DV) (v : Value) : RelD w S x v → RelV C w S β (.d x) v
  | a (cs : List PV) (vs : List Value) : cs.length = vs.length → (∀ v ∈ vs, flat v) → (∀ j (h : j < cs.length) (h' : j < vs.length), RelV C w S β cs[j] vs[j]) → RelV C w S β (.a cs) (.agg vs.toArray)
  | t (cs : List PV) (vs : List Value) : cs.length = vs.length → (∀ j (h : j < cs.length) (h' : j < vs.length), RelV C w S β cs[j] vs[j]) → RelV C w S β (.t cs) (.tuple vs.toArray)
  | r (o : Nat) (k : K) (off len : Nat) (t : Bool) (v : Value) : flat v → RelRf w β o k off len t v → RelV C w S β (.r o k off len t) v
  | p (o i c : Nat) (v : Value) : flat v → RelPt β o i c v → RelV C w S β (.p o i c) v
  | q (x : DV) (k : K) (c blk off : Nat) (f : Nat → Value) : At w S blk off k.size f → RelD w S x (mkV k f) → RelV C w S β (.q x k c) (.pointer (some ⟨blk, off + c, none⟩))
  | f (n : Nat) (cs : List PV) (vs : List Value) : cs.length = vs.length → (∀ j (h : j < cs.length) (h' : j < vs.length), RelV C w S β cs[j] vs[j]) → RelV C w S β (.f n cs) (.func (.func (C.μ n)) #[] vs.toArray)

theorem RelD.flat_of {w : World} {S : Stab} {x : DV} {v : Value} (h : RelD w S x v) (hx : ∀ cs, x ≠ .a cs) : flat v := by
  cases h <;> first | rfl | exact absurd rfl (hx _)

/-- One world behind another: what is stable stays, what lies below B stays. -/
structure Ext (B : Nat) (w : World) (S : Stab) (w' : World) (S' : Stab) : Prop where
  below : Below B w w'
  stab : ∀ b o, S b o → S' b o
  cell : ∀ b o, S b o → w'.cell? ⟨b, o, none⟩ = w.cell? ⟨b, o, none⟩
  new : ∀ b o, S' b o → S b o ∨ B ≤ b
  shape : ∀ b e n, w.shape? b = some (e, n) → w'.shape? b = some (e, n)
theorem Ext.refl (B : Nat) (w : World) (S : Stab) : Ext B w S w S :=
  ⟨Below.refl _ _, fun _ _ h => h, fun _ _ _ => rfl, fun _ _ h => .inl h, fun _ _ _ h => h⟩
theorem Ext.trans {B : Nat} {w w' w'' : World} {S S' S'' : Stab} (h : Ext B w S w' S') (k : Ext B w' S' w'' S'') : Ext B w S w'' S'' :=
  ⟨h.below.trans k.below, fun b o x => k.stab b o (h.stab b o x), fun b o x => (k.cell b o (h.stab b o x)).trans (h.cell b o x),
   fun b o x => (k.new b o x).elim (h.new b o) .inr, fun b e n x => k.shape b e n (h.shape b e n x)⟩
theorem At.ext {w w' : World} {S S' : Stab} {B blk off n : Nat} {c : Nat → Value} (e : Ext B w S w' S') (h : At w S blk off n c) : At w' S' blk off n c :=
  fun m hm => ⟨(e.cell _ _ (h m hm).2.1).trans (h m hm).1, e.stab _ _ (h m hm).2.1, (h m hm).2.2⟩
theorem RelD.ext {w w' : World} {S S' : Stab} {B : Nat} (e : Ext B w S w' S') {x : DV} {v : Value} (h : RelD w S x v) : RelD w' S' x v := by
  induction h with
  | b x => exact .b x
  | i k n => exact .i k n
  | s l x h => exact .s l x h
  | np => exact .np
  | nf => exact .nf
  | ni => exact .ni
  | nm => exact .nm
  | a cs vs h1 h2 _ ih => exact .a cs vs h1 h2 ih
  | l k es t a cap blk off c h1 h2 h3 h4 _ ih => exact .l k es t a cap blk off c h1 h2 h3 (fun j hj => (h4 j hj).ext e) ih
/-- Stable cells may be more, for one world. -/
theorem At.more {w : World} {S S' : Stab} {blk off n : Nat} {c : Nat → Value} (e : ∀ b o, S b o → S' b o) (h : At w S blk off n c) : At w S' blk off n c :=
  fun m hm => ⟨(h m hm).1, e _ _ (h m hm).2.1, (h m hm).2.2⟩
theorem RelD.more {w : World} {S S' : Stab} (e : ∀ b o, S b o → S' b o) {x : DV} {v : Value} (h : RelD w S x v) : RelD w S' x v := by
  induction h with
  | b x => exact .b x
  | i k n => exact .i k n
  | s l x h => exact .s l x h
  | np => exact .np
  | nf => exact .nf
  | ni => exact .ni
  | nm => exact .nm
  | a cs vs h1 h2 _ ih => exact .a cs vs h1 h2 ih
  | l k es t a cap blk off c h1 h2 h3 h4 _ ih => exact .l k es t a cap blk off c h1 h2 h3 (fun j hj => (h4 j hj).more e) ih
/-- Objects may die; those that are to come may come. -/
def Later (β β' : Pl) : Prop := ∀ o, β' o = β o ∨ β' o = .dead ∨ β o = .pend
theorem Later.refl (β : Pl) : Later β β := fun _ => .inl rfl
theorem Later.trans {β β' β'' : Pl} (h : Later β β') (k : Later β' β'') : Later β β'' := fun o => by
  rcases h o with h1 | h1 | h1
  · rcases k o with k1 | k1 | k1
    · exact .inl (k1.trans h1)
    · exact .inr (.inl k1)
    · exact .inr (.inr (h1.symm.trans k1))
  · rcases k o with k1 | k1 | k1
    · exact .inr (.inl (k1.trans h1))
    · exact .inr (.inl k1)
    · rw [h1] at k1; cases k1
  · exact .inr (.inr h1)
theorem RelRf.ext {w w' : World} {S S' : Stab} {B : Nat} (e : Ext B w S w' S') {β β' : Pl} (hb : Later β β') {o : Nat} {k : K} {off len : Nat} {t : Bool} {v : Value}
    (h : RelRf w β o k off len t v) : RelRf w' β' o k off len t v := by
  unfold RelRf at *
  rcases hb o with h1 | h1 | h1
  · rw [h1]
    cases hc : β o with
    | pend => rw [hc] at h; exact h
    | dead => trivial
    | virt => rw [hc] at h; exact h
    | «at» blk base k' =>
      rw [hc] at h
      obtain ⟨h2, cap, a, h3, h3', h4, h5, e', n, h6, h7⟩ := h
      exact ⟨h2, cap, a, h3, h3', h4, h5, e', n, e.shape _ _ _ h6, h7⟩
  · rw [h1]; trivial
  · rw [h1] at h; exact h.elim
theorem RelPt.ext {β β' : Pl} (hb : Later β β') {o i c : Nat} {v : Value} (h : RelPt β o i c v) : RelPt β' o i c v := by
  unfold RelPt at *
  rcases hb o with h1 | h1 | h1
  · rw [h1]; exact h
  · rw [h1]
    cases hc : β o with
    | pend => rw [hc] at h; exact h.elim
    | dead => rw [hc] at h; exact h
    | virt => rw [hc] at h; exact h.elim
    | «at» blk base k => rw [hc] at h; exact ⟨_, _, h⟩
  · rw [h1] at h; exact h.elim
theorem RelV.ext {C : Cx} {w w' : World} {S S' : Stab} {B : Nat} (e : Ext B w S w' S') {β β' : Pl} (hb : Later β β') {x : PV} {v : Value}
    (h : RelV C w S β x v) : RelV C w' S' β' x v := by
  induction h with
  | u v => exact .u v
  | d x v h => exact .d x v (h.ext e)
  | a cs vs h1 h2 _ ih => exact .a cs vs h1 h2 ih
  | t cs vs h1 _ ih => exact .t cs vs h1 ih
  | r o k off len t v h0 h => exact .r o k off len t v h0 (h.ext e hb)
  | p o i c v h0 h => exact .p o i c v h0 (h.ext hb)
  | q x k c blk off f h1 h2 => exact .q x k c blk off f (h1.ext e) (h2.ext e)
  | f n cs vs h1 _ ih => exact .f n cs vs h1 ih

def Obj.shape : Obj → K
  | .box k _ => k
  | .sl k _ _ => k
/-- An object's cells, in a block's cells. -/
def OCells (C : Cx) (w : World) (S : Stab) (β : Pl) (cells : Array Value) (blk base : Nat) : Obj → Prop
  | .box k v => base + k.size ≤ cells.size ∧ ∃ f : Nat → Value, (∀ m, m < k.size → cells[base + m]? = some (f m) ∧ flat (f m)) ∧ RelV C w S β v (mkV k f) ∧ ∀ o, ¬ S blk o
  | .sl k ro es => base + es.length * k.size ≤ cells.size ∧ ∃ c : Nat → Nat → Value, (∀ j, j < es.length → ∀ m, m < k.size → cells[base + j * k.size + m]? = some (c j m) ∧ flat (c j m)) ∧
      (∀ j (h : j < es.length), RelD w S es[j] (mkV k (c j))) ∧ ∀ o, base + ro * k.size ≤ o → ¬ S blk o
structure HOK (C : Cx) (B : Nat) (w : World) (S : Stab) (β : Pl) (H : Heap) : Prop where
  live : ∀ o blk base k, β o = .at blk base k → B ≤ blk ∧ ∃ x cells e, H.obj o = some x ∧ x.shape = k ∧ w.heap[blk]? = some (.cells cells e (0, 0)) ∧ OCells C w S β cells blk base x
  dead : ∀ o, β o = .dead → H.obj o = none
  virt : ∀ o, β o = .virt → ∃ k ro, H.obj o = some (.sl k ro [])
  inj : ∀ o o' blk base k base' k', β o = .at blk base k → β o' = .at blk base' k' → o = o'
  out : ∀ o, H.length ≤ o → β o = .pend
/-- Stable cells are there. -/
def Swf (w : World) (S : Stab) : Prop := ∀ b o, S b o → ∃ v, w.cell? ⟨b, o, none⟩ = some v
end Go.Sim
