/- Each operation of the model does what the abstract machine says. -/
import Derived.Test.YtbbboagbgimaaaaDoorCbSimU
open Go.RowKit
namespace Go.Sim
/-- A slice that nothing else holds. -/
def OwnedBy (w : World) (S : Stab) (k : K) (es : List DV) (v : Value) (B : Nat) : Prop :=
  (es = [] ∧ ∃ a, v = .slice a 0 0) ∨ ∃ blk off cap cells e, v = .slice (some ⟨blk, off, none⟩) es.length cap ∧ es.length ≤ cap ∧ B ≤ blk ∧ w.heap[blk]? = some (.cells cells e (0, 0)) ∧
    off + cap * k.size ≤ cells.size ∧ (∀ j, off ≤ j → ¬ S blk j) ∧ ERel w S k es (cells.toList.drop off)
/-- What a call by plain data does. -/
def CallV (P : Program) (C : Cx) (N : Names) (G : Nat → Option (DV × K)) (f : Nat) (ds : List DV) (r : PV) (own : Bool) : Prop :=
  ∀ (w : World) (S : Stab) (us : List Value), Swf w S → GOK N G w S → ds.length = us.length → (∀ j (h : j < ds.length) (h' : j < us.length), RelD w S ds[j] us[j]) →
    Calls P (C.μ f) us.toArray w fun e w' => ∃ v S', e = .returned v ∧ Ext w.heap.size w S w' S' ∧ Swf w' S' ∧ (own = false → RelV C w' S' (fun _ => .pend) r v) ∧
      (own = true → ∃ k es, r = .d (.l k es false) ∧ OwnedBy w' S' k es v w.heap.size)
/-- What a call by reference does. -/
def CallR (P : Program) (C : Cx) (N : Names) (G : Nat → Option (DV × K)) (f : Nat) (args : List PV) (H : Heap) (r : PV) (H' : Heap) : Prop :=
  ∀ (B : Nat) (w : World) (S : Stab) (β : Pl) (us : List Value), B ≤ w.heap.size → Swf w S → GOK N G w S → HOK C B w S β H → args.length = us.length → (∀ j (h : j < args.length) (h' : j < us.length), RelV C w S β args[j] us[j]) →
    Calls P (C.μ f) us.toArray w fun e w' => ∃ v S' β', e = .returned v ∧ Ext B w S w' S' ∧ Swf w' S' ∧ HOK C B w' S' β' H' ∧ Later β β' ∧ RelV C w' S' β' r v ∧ H.length ≤ H'.length ∧ Kp H.length H.length β β'
structure OrOK (P : Program) (C : Cx) (N : Names) (E : Env) : Prop where
  val : ∀ f ds r own, E.val f ds = some (r, own) → CallV P C N E.G f ds r own
  ref : ∀ f args H r H', E.ref f args H = some (r, H') → CallR P C N E.G f args H r H'
  fn : ∀ f args H r, E.ref f args H = some r → ∃ fn, P.funcs[C.μ f]? = some fn ∧ fn.body.isNone = false ∧ fn.name ≠ "runtime.NumGoroutine"
section
variable {P : Program} {N : Names} {C : Cx} {w : World} {S : Stab} {β : Pl} {B : Nat} {H : Heap}
/-- Owned, it is a stable slice. -/
theorem owned_stable {k : K} {es : List DV} {v : Value} (hS : Swf w S) (h : OwnedBy w S k es v B) : ∃ S', Ext B w S w S' ∧ Swf w S' ∧ RelD w S' (.l k es false) v ∧ (∀ b j, b < B → S' b j → S b j) := by
  rcases h with ⟨rfl, a, rfl⟩ | ⟨blk, off, cap, cells, e, rfl, h1, h2, h3, h4, h5, h6⟩
  · exact ⟨S, Ext.refl _ _ _, hS, .l _ [] false a 0 0 0 (fun _ _ => undef) (Nat.le_refl _) (fun _ => rfl) (fun h => absurd h (Nat.lt_irrefl _)) (fun _ hj => absurd hj (Nat.not_lt_zero _)) (fun _ hj => absurd hj (Nat.not_lt_zero _)), fun _ _ _ h => h⟩
  · obtain ⟨g0, c, g1, g2⟩ := h6
    have hdrop : ∀ x y, (cells.toList.drop off)[x]? = some y → cells[off + x]? = some y := fun x y h => by
      rw [List.getElem?_drop] at h; simpa using h
    refine ⟨fun b j => S b j ∨ (b = blk ∧ off ≤ j ∧ j < off + es.length * k.size), ⟨Below.refl _ _, fun _ _ h => .inl h, fun _ _ _ => rfl, ?_, fun _ _ _ h => h⟩, ?_, ?_, ?_⟩
    · rintro b j (h | ⟨rfl, -, -⟩)
      · exact .inl h
      · exact .inr h2
    · rintro b j (h | ⟨rfl, q1, q2⟩)
      · exact hS b j h
      · have hlt : j < cells.size := by
          have : es.length * k.size ≤ cap * k.size := Nat.mul_le_mul_right _ h1
          omega
        exact ⟨cells[j], cell_of_heap h3 (by simp [hlt])⟩
    · refine .l _ es false _ cap blk off c h1 (fun h => by cases h) (fun _ => rfl) ?_ ?_
      · intro j hj m hm
        have h7 : (j + 1) * k.size ≤ es.length * k.size := Nat.mul_le_mul_right _ hj
        rw [Nat.add_mul, Nat.one_mul] at h7
        have h8 := hdrop _ _ (g1 j hj m hm).1
        rw [← Nat.add_assoc] at h8
        exact ⟨cell_of_heap h3 h8, .inr ⟨rfl, by omega, by omega⟩, (g1 j hj m hm).2⟩
      · intro j hj
        exact (g2 j hj).more (fun _ _ h => .inl h)
    · rintro b j hb (h | ⟨rfl, -, -⟩)
      · exact h
      · omega
/-- Behind a call by plain data: what stays. -/
theorem behind_call {w' : World} {S' : Stab} (hH : HOK C B w S β H) (hB : B ≤ w.heap.size) (e : Ext w.heap.size w S w' S') :
    Ext B w S w' S' ∧ HOK C B w' S' β H := by
  have e' : Ext B w S w' S' := ⟨e.below.mono hB, e.stab, e.cell, fun b j h => (e.new b j h).imp id (fun h => Nat.le_trans hB h), e.shape⟩
  refine ⟨e', hH.ext e' (fun o blk base k h => e.below.block blk (hH.lt h)) ?_⟩
  intro o blk base k h j hj
  rcases e.new blk j hj with h1 | h1
  · exact h1
  · have := hH.lt h; omega
/-- A result without slices holds in every view. -/
theorem scal1_rel {w' : World} {S' : Stab} {x : DV} {v : Value} (hs : x.scal1 = true) (h : RelD w S x v) : RelD w' S' x v := by
  cases h with
  | b x => exact .b x
  | i k n => exact .i k n
  | s l x h => exact .s l x h
  | np => exact .np
  | nf => exact .nf
  | ni => exact .ni
  | nm => exact .nm
  | a cs vs h1 h2 h3 => simp [DV.scal1] at hs
  | l => simp [DV.scal1] at hs
theorem scalD_rel {w' : World} {S' : Stab} {x : DV} {v : Value} (hs : x.scal = true) (h : RelD w S x v) : RelD w' S' x v := by
  cases h with
  | a cs vs h1 h2 h3 =>
    refine .a cs vs h1 h2 ?_
    intro j hj hj'
    have hsc : ∀ c ∈ cs, DV.scal1 c = true := by simpa [DV.scal] using hs
    exact scal1_rel (hsc _ (List.getElem_mem hj)) (h3 j hj hj')
  | l => simp [DV.scal, DV.scal1] at hs
  | b x => exact .b x
  | i k n => exact .i k n
  | s l x h => exact .s l x h
  | np => exact .np
  | nf => exact .nf
  | ni => exact .ni
  | nm => exact .nm
theorem scalP_rel {w' : World} {S' : Stab} {β' : Pl} {x : PV} {v : Value} (hs : x.scal1 = true) (h : RelV C w S β x v) : RelV C w' S' β' x v := by
  cases h with
  | d x v h => exact .d x v (scalD_rel (by simpa [PV.scal1] using hs) h)
  | _ => simp [PV.scal1] at hs
theorem scal_rel {w' : World} {S' : Stab} {β' : Pl} {x : PV} {v : Value} (hs : x.scal = true) (h : RelV C w S β x v) : RelV C w' S' β' x v := by
  cases h with
  | t cs vs h1 h2 =>
    refine .t cs vs h1 ?_
    intro j hj hj'
    have hsc : ∀ c ∈ cs, PV.scal1 c = true := by simpa [PV.scal] using hs
    exact scalP_rel (hsc _ (List.getElem_mem hj)) (h2 j hj hj')
  | d x v h => exact .d x v (scalD_rel (by simpa [PV.scal, PV.scal1] using hs) h)
  | _ => simp [PV.scal, PV.scal1] at hs
/-- An object whose block a call has made. -/
theorem hok_adopt (hH : HOK C B w S β H) {B' : Nat} (hBB : B ≤ B') {id blk off : Nat} (hp : β id = .pend) (hlt : id < H.length) (hblk : B' ≤ blk) (hlow : ∀ o blk base k, β o = .at blk base k → blk < B') {cells : Array Value} {e : TypeId} (hw : w.heap[blk]? = some (.cells cells e (0, 0))) {x : Obj}
    (hc : OCells C w S β cells blk off x) : HOK C B w S (upd β id (.at blk off x.shape)) (H.put id (some x)) ∧ Later β (upd β id (.at blk off x.shape)) := by
  have hlat := later_upd (x := BO.at blk off x.shape) hp
  have hat : ∀ p blk1 base1 k1, upd β id (.at blk off x.shape) p = .at blk1 base1 k1 → (p = id ∧ blk1 = blk ∧ base1 = off ∧ k1 = x.shape) ∨ (p ≠ id ∧ β p = .at blk1 base1 k1) := by
    intro p blk1 base1 k1 h
    by_cases h1 : p = id
    · subst h1; rw [upd_same] at h; cases h; exact .inl ⟨rfl, rfl, rfl, rfl⟩
    · rw [upd_ne h1] at h; exact .inr ⟨h1, h⟩
  refine ⟨⟨?_, ?_, ?_, ?_, ?_⟩, hlat⟩
  · intro p blk1 base1 k1 h
    rcases hat p blk1 base1 k1 h with ⟨rfl, rfl, rfl, rfl⟩ | ⟨h1, h2⟩
    · exact ⟨Nat.le_trans hBB hblk, x, cells, e, obj_put_same hlt, rfl, hw, hc.ext (Ext.refl B w S) hlat (fun _ h => h)⟩
    · obtain ⟨a1, x0, c0, e0, a2, a3, a4, a5⟩ := hH.live p blk1 base1 k1 h2
      exact ⟨a1, x0, c0, e0, by rw [obj_put_ne (fun h => h1 h.symm)]; exact a2, a3, a4, a5.ext (Ext.refl B w S) hlat (fun _ h => h)⟩
  · intro p h
    have h1 : p ≠ id := fun h1 => by subst h1; rw [upd_same] at h; cases h
    rw [upd_ne h1] at h
    rw [obj_put_ne (fun h => h1 h.symm)]; exact hH.dead p h
  · intro p h
    have h1 : p ≠ id := fun h1 => by subst h1; rw [upd_same] at h; cases h
    rw [upd_ne h1] at h
    rw [obj_put_ne (fun h => h1 h.symm)]; exact hH.virt p h
  · intro p p' blk1 base1 k1 base2 k2 h1 h2
    rcases hat _ _ _ _ h1 with ⟨rfl, rfl, rfl, rfl⟩ | ⟨a1, a3⟩
    · rcases hat _ _ _ _ h2 with ⟨rfl, -, -, -⟩ | ⟨b1, b3⟩
      · rfl
      · have := hlow _ _ _ _ b3; omega
    · rcases hat _ _ _ _ h2 with ⟨rfl, rfl, rfl, rfl⟩ | ⟨b1, b3⟩
      · have := hlow _ _ _ _ a3; omega
      · exact hH.inj p p' blk1 base1 k1 base2 k2 a3 b3
  · intro p h
    rw [put_length] at h
    rw [upd_ne (by omega)]; exact hH.out p h
/-- Before a call by plain data. -/
theorem call_args {us : List Value} {vs : List PV} {ds : List DV} {os : List Nat} (hH : HOK C B w S β H) (hp : purs H vs = some (ds, os)) (hl : vs.length = us.length) (hr : ∀ j (h : j < vs.length) (h' : j < us.length), RelV C w S β vs[j] us[j]) :
    ds.length = us.length ∧ ∀ j (h : j < ds.length) (h' : j < us.length), RelD w (FS β H os S) ds[j] us[j] := by
  obtain ⟨h1, h2⟩ := purs_rel hH hp
  exact ⟨by omega, h2 us hr⟩
theorem RelV.plain {β' : Pl} {x : PV} {v : Value} (h : RelV C w S (fun _ => .pend) x v) : RelV C w S β' x v :=
  h.ext (Ext.refl 0 w S) (fun _ => .inr (.inr rfl))
end
end Go.Sim
