/- THE THEOREM: what the abstract machine answers, the model's function returns. -/
import Derived.Test.YtbbboagbgimaaaaDoorCbSimY
open Go.RowKit
namespace Go.Sim
section
variable {P : Program} {N : Names} {C : Cx} {w : World} {S : Stab} {β : Pl} {B : Nat} {H : Heap} {a : Act} {E : Env}
structure TabOK (P : Program) (N : Names) (C : Cx) (T : Tab) : Prop where
  names : NOK P N C T.G
  f : ∀ f F, T.F f = some F → FnOK P N (C.μ f) F
  x : ∀ f ds r own, T.F f = none → T.X f ds = some (r, own) → CallV P C N T.G f ds r own
theorem purT_sound {w0 : World} {S0 : Stab} {v r : PV} {own : Bool} {u : Value} (h : purT H v = some (r, own)) (hS : Swf w S) (hH : HOK C w0.heap.size w S β H) (he : Ext w0.heap.size w0 S0 w S) (hv : RelV C w S β v u) :
    ∃ S', Ext w0.heap.size w0 S0 w S' ∧ Swf w S' ∧ (own = false → RelV C w S' (fun _ => .pend) r u) ∧ (own = true → ∃ k es, r = .d (.l k es false) ∧ OwnedBy w S' k es u w0.heap.size) := by
  have frozen : ∀ os, Ext w0.heap.size w0 S0 w (FS β H os S) ∧ Swf w (FS β H os S) := fun os => ⟨he.trans (freeze_ext hH os), freeze_swf hH hS os⟩
  unfold purT at h
  split at h
  · split at h
    · rename_i xs os hp
      cases h
      cases hv with
      | t _ us h1 h2 =>
      obtain ⟨h3, h4⟩ := purs_rel hH hp
      refine ⟨FS β H os S, (frozen os).1, (frozen os).2, fun _ => .t _ us (by simp; omega) ?_, fun h => by cases h⟩
      intro j hj hj'
      rw [List.getElem_map]
      exact .d _ _ (h4 us h2 j _ hj')
    · cases h
  · rename_i o k off len t
    split at h
    · rename_i k' ro es ho
      split at h
      · rename_i hc
        obtain ⟨rfl, hle⟩ := hc
        simp only [Option.some.injEq, Prod.mk.injEq] at h
        obtain ⟨rfl, hown⟩ := h
        cases hb : own with
        | false =>
          refine ⟨FS β H [o] S, (frozen [o]).1, (frozen [o]).2, fun _ => ?_, fun h => by cases h⟩
          exact .d _ _ (purC_rel hH hv (by simp [purC, ho, hle]))
        | true =>
          rw [hb] at hown
          have hro : ro ≤ off := by simpa using hown
          refine ⟨S, he, hS, (fun h => by cases h), fun _ => ⟨_, _, rfl, ?_⟩⟩
          cases hv with
          | r _ _ _ _ _ _ h0 hx =>
          have hlen : ((es.drop off).take len).length = len := by simp; omega
          unfold RelRf at hx
          split at hx
          · exact hx.elim
          · rename_i hb; rw [hH.dead o hb] at ho; cases ho
          · obtain ⟨rfl, rfl, a, rfl⟩ := hx
            exact .inl ⟨by simp, a, rfl⟩
          · rename_i blk base k3 hb
            obtain ⟨e1, cap, a, rfl, e2, e3, e4, e', n, e5, e6⟩ := hx
            subst e1
            rcases Nat.eq_zero_or_pos cap with h0 | h0
            · subst h0
              have : len = 0 := by omega
              subst this
              exact .inl ⟨by simp, some a, rfl⟩
            · have := e2 h0
              subst this
              obtain ⟨hB, x, cells, e0, ho', hs, hw, hc⟩ := hH.live o blk base k3 hb
              rw [ho] at ho'
              cases ho'
              obtain ⟨q0, c, q1, q2, q3⟩ := hc
              have hcs : n = cells.size := by
                unfold World.shape? at e5
                rw [hw] at e5
                cases e5; rfl
              subst hcs
              refine .inr ⟨blk, base + off * k3.size, cap, cells, e0, by rw [hlen], by omega, hB, hw, by rw [Nat.add_assoc, ← Nat.add_mul]; exact e6, ?_, ?_⟩
              · intro j hj
                refine q3 j ?_
                have : ro * k3.size ≤ off * k3.size := Nat.mul_le_mul_right _ hro
                omega
              · refine ⟨?_, fun j => c (off + j), ?_, ?_⟩
                · rw [hlen, List.length_drop, Array.length_toList]
                  have : (off + len) * k3.size ≤ (off + cap) * k3.size := Nat.mul_le_mul_right _ (by omega)
                  rw [Nat.add_mul] at this
                  omega
                · intro j hj m hm
                  have := q1 (off + j) (by omega) m hm
                  rw [Nat.add_mul] at this
                  rw [List.getElem?_drop]
                  have e7 : base + off * k3.size + (j * k3.size + m) = base + (off * k3.size + j * k3.size) + m := by omega
                  rw [e7]
                  simpa using this
                · intro j hj
                  have := q2 (off + j) (by omega)
                  simpa [List.getElem_drop, List.getElem_take] using this
      · cases h
    · cases h
  · rename_i k es
    simp only [Option.some.injEq, Prod.mk.injEq] at h
    obtain ⟨rfl, hown⟩ := h
    cases hv with
    | d _ _ hv =>
    refine ⟨S, he, hS, fun _ => ?_, fun h1 => ⟨k, es, rfl, ?_⟩⟩
    · cases hv with
      | l _ _ _ a cap blk off c c1 c2 c3 c4 c5 => exact .d _ _ (.l _ _ false a cap blk off c c1 (fun h => by cases h) c3 c4 c5)
    · rw [h1] at hown
      have : es = [] := by simpa using hown
      subst this
      cases hv with
      | l _ _ _ a cap blk off c c1 c2 c3 c4 c5 =>
      have := c2 rfl
      subst this
      exact .inl ⟨rfl, a, rfl⟩
  · split at h
    · rename_i x os hp
      cases h
      exact ⟨FS β H os S, (frozen os).1, (frozen os).2, fun _ => .d _ _ (pur_rel hH hv hp), fun h => by cases h⟩
    · cases h
theorem tab_sound {T : Tab} (hT : TabOK P N C T) : ∀ n, OrOK P C N (envN T n) := by
  intro n
  induction n with
  | zero => exact ⟨fun f ds r own h => by simp [envN, valN] at h, fun f args H r H' h => by simp [envN, refN] at h, fun f args H r h => by simp [envN, refN] at h⟩
  | succ n ih =>
    refine ⟨?_, ?_, ?_⟩
    · intro f ds r own h
      change valN T (n + 1) f ds = some (r, own) at h
      rw [valN_succ] at h
      cases hF : T.F f with
      | none => rw [hF] at h; exact hT.x f ds r own hF h
      | some F =>
        rw [hF] at h
        simp only at h
        split at h
        · rename_i v H' he
          intro w S us hS hG hl hr
          have h0 : HOK C w.heap.size w S (fun _ => .pend) [] := ⟨(fun o blk base k h => by cases h), (fun o h => by cases h), (fun o h => by cases h), (fun o o' blk base k base' k' h => by cases h), fun _ _ => rfl⟩
          have := fn_sound ih hT.names (hT.f f F hF) (args := ds.map .d) (H := []) he hS hG (Nat.le_refl _) h0 (by simpa using hl) (fun j hj hj' => by
            rw [List.getElem_map]; exact .d _ _ (hr j (by simpa using hj) hj'))
          refine this.mono ?_
          rintro e w' ⟨u, S', β', rfl, e1, e2, e3, -, e5, -⟩
          obtain ⟨S2, q1, q2, q3, q4⟩ := purT_sound h e2 e3 e1 e5
          exact ⟨u, S2, rfl, q1, q2, q3, q4⟩
        · cases h
    · intro f args H r H' h
      change refN T (n + 1) f args H = some (r, H') at h
      rw [refN_succ] at h
      cases hF : T.F f with
      | none => rw [hF] at h; cases h
      | some F =>
        rw [hF] at h
        simp only at h
        split at h
        · rename_i v H1 he
          simp only [Option.some.injEq] at h
          intro B w S β us hB hS hG hH hl hr
          refine (fn_sound ih hT.names (hT.f f F hF) he hS hG hB hH hl hr).mono ?_
          rintro e w' ⟨u, S', β', rfl, e1, e2, e3, e4, e5, e6⟩
          obtain ⟨h1, h2⟩ := reach_ok H1 H.length 1000 [] (v.refs ++ heapRefs (H1.take H.length)) (by simp) (by simp)
          unfold gcV at h
          simp only [Prod.mk.injEq] at h
          obtain ⟨rfl, rfl⟩ := h
          have hlb := e4.trans (lb_gc (β := β') H.length (reach H1 H.length 1000 [] (v.refs ++ heapRefs (H1.take H.length))))
          refine ⟨u, S', _, rfl, e1, e2, hok_gc e3 e6 h1 h2, ?_, ren_rel (fun o o' h => place_β h) e5, by rw [gcH_length e6]; omega, fun o ho _ hp => (hlb o ho).2 hp⟩
          intro o
          rcases Nat.lt_or_ge o H.length with ho | ho
          · exact (hlb o ho).1
          · exact .inr (.inr (hH.out o ho))
        · cases h
    · intro f args H r h
      change refN T (n + 1) f args H = some r at h
      rw [refN_succ] at h
      cases hF : T.F f with
      | none => rw [hF] at h; cases h
      | some F =>
        obtain ⟨fn, c, f1, f2, f3, -⟩ := hT.f f F hF
        exact ⟨fn, f1, by rw [f3]; rfl, f2⟩
/-- A call's contract out of the abstract machine's answer. -/
theorem val_calls {T : Tab} (hT : TabOK P N C T) {f : Nat} {ds : List DV} {r : PV} {own : Bool} (h : T.val f ds = some (r, own)) : CallV P C N T.G f ds r own := by
  obtain ⟨n, hn⟩ := (val_some T f ds (r, own)).1 h
  exact (tab_sound hT n).val f ds r own hn
/-- A law that answers true. -/
theorem law_calls {T : Tab} (hT : TabOK P N C T) {f : Nat} {ds : List DV} {own : Bool} (h : T.val f ds = some (.d (.b true), own)) {us : List Value} (hS : Swf w S) (hG : GOK N T.G w S) (hl : ds.length = us.length) (hr : ∀ j (h : j < ds.length) (h' : j < us.length), RelD w S ds[j] us[j]) :
    Calls P (C.μ f) us.toArray w fun e w' => e = .returned (.bool true) ∧ Below w.heap.size w w' := by
  refine (val_calls hT h w S us hS hG hl hr).mono ?_
  rintro e w' ⟨u, S', rfl, e1, -, e3, e4⟩
  cases own with
  | false => exact ⟨by rw [bool_rel (e3 rfl)], e1.below⟩
  | true => obtain ⟨k, es, h, -⟩ := e4 rfl; cases h
end
end Go.Sim
