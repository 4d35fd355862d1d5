/- Part 6 of the proof: CbSimIn, CbSimIt, CbSimRp, CbSimCt, CbSimAi, CbTab2, CbGi. -/
import Derived.Test.YtkijgkjjbanipaaGreatDoorB5
import Derived.Shelf.Strconv.Itoa3
import Derived.Shelf.Strings.Repeat
import Derived.Shelf.Strings.Count
import Derived.Shelf.Strconv.AppendIntPublic10
import Derived.Test.YtkijgkjjbanipaaGreatDoorB2
set_option linter.all false
section
open Go.RowKit
namespace Go.Sim
def insX (k : K) (b : Nat) (args : List PV) (H : Heap) : Option (PV × Heap) := match args with
 | [x, .d (.i .i64 i), .r ov kv offv lv tv] => match elemsA H k (.r ov kv offv lv tv) with
  | some [y] => match x with
   | .r o k' off len _ => match H.obj o with
    | some (.sl k'' ro es) =>
     if K.eq k k' && K.eq k k'' && decide (off + len ≤ es.length) && decide (ro ≤ off) && decide (0 ≤ i) && decide (i ≤ len) && decide ((len + 1) * b ≤ 2 ^ 47) && !(Nat.beq o ov) then
      some (.r H.length k 0 (len + 1) false, (H ++ [none]).put o none |>.put H.length (some (.sl k 0 (((es.drop off).take len).take i.toNat ++ y :: ((es.drop off).take len).drop i.toNat))))
     else none
    | _ => none
   | .d (.l _ [] true) => if i = 0 && decide (b ≤ 2 ^ 47) then some (.r H.length k 0 1 false, (H ++ [none]).put H.length (some (.sl k 0 [y]))) else none
   | _ => none
  | _ => none
 | _ => none
section
variable {P : Program} {N : Names} {C : Cx} {w : World} {S : Stab} {β : Pl} {B : Nat} {H : Heap} {a : Act} {E : Env} {ρ : Go.Shelf.Ren}
theorem elemsA_grow {H : Heap} {k : K} {v : PV} {ys : List DV} (n : Nat) (h : elemsA H k v = some ys) : elemsA (H ++ List.replicate n none) k v = some ys := by
 unfold elemsA at h ⊢
 split at h
 ·exact h
 ·rename_i o k' off len t
  simp only [obj_grow]
  exact h
 ·exact h
 ·cases h
theorem leaves_grow {id : Nat} {v : PV} {H' : Heap} {u : Value} {w' : World} (hid : id = H.length) (h : Leaves C B w S β (H ++ List.replicate 1 none) id v H' u w') :
  ∃ S' β', Ext B w S w' S' ∧ Swf w' S' ∧ HOK C B w' S' β' H' ∧ Later β β' ∧ RelV C w' S' β' v u ∧ H.length ≤ H'.length ∧ Kp H.length H.length β β' := by
 obtain ⟨S', β', h1, h2, h3, h4, h5, h6, h7⟩ := h
 subst hid
 refine ⟨S', β', h1, h2, h3, h4, h5, by rw [h6]; simp, fun o h8 h9 h10 => h7 o (by simp; omega) h9 h10⟩
theorem rel_loose {o : Nat} {k : K} {off len : Nat} {t : Bool} {u : Value} (h : RelV C w S β (.r o k off len t) u) : RelV C w S β (.r o k off len false) u := by
 cases h with
 | r _ _ _ _ _ _ h0 hx =>
  refine .r _ _ _ _ _ _ h0 ?_
  unfold RelRf at hx ⊢
  split at hx
  ·exact hx.elim
  ·trivial
  ·exact hx
  ·obtain ⟨e1, cap, a, h1, h2, h3, -, h4⟩ := hx
   exact ⟨e1, cap, a, h1, h2, h3, fun h => (Bool.noConfusion h), h4⟩
  ·exact hx.elim
theorem ins_end_list {α : Type} {L : List α} {n : Nat} (h : L.length = n) (y : α) : L.take n ++ y :: L.drop n = L ++ [y] := by
 rw [List.take_of_length_le (by omega), List.drop_of_length_le (by omega)]
theorem putAt_mid {α : Type} {a b c : List α} {n : Nat} {xs : List α} (hn : n = a.length) (hx : xs.length = b.length) : putAt (a ++ b ++ c) n xs = a ++ xs ++ c := by
 subst hn
 unfold putAt
 rw [List.append_assoc a b c, List.take_left, hx, ← List.drop_drop, List.drop_left, List.drop_left]
theorem ins_shift_list {L : List DV} {j : Nat} (hj : j < L.length) (y : DV) : putAt (L.take (j + 1) ++ L.drop j) j [y] = L.take j ++ y :: L.drop j := by
 have e1 : L.take (j + 1) = L.take j ++ [L[j]] := by rw [List.take_succ_eq_append_getElem hj]
 rw [e1, putAt_mid (b := [L[j]]) (xs := [y]) (by rw [List.length_take]; omega) rfl, List.append_assoc]; rfl
theorem ins_grow_list {L : List DV} {j : Nat} (hj : j ≤ L.length) (y z : DV) : putAt (putAt (L.take j ++ List.replicate (L.length + 1 - j) z) j [y]) (j + 1) (L.drop j) = L.take j ++ y :: L.drop j := by
 have e1 : List.replicate (L.length + 1 - j) z = [z] ++ List.replicate (L.length - j) z := by
  have : L.length + 1 - j = (L.length - j) + 1 := by omega
  rw [this, List.replicate_succ]; rfl
 rw [e1, ← List.append_assoc, putAt_mid (b := [z]) (xs := [y]) (by rw [List.length_take]; omega) rfl]
 have := putAt_mid (a := L.take j ++ [y]) (b := List.replicate (L.length - j) z) (c := []) (n := j + 1) (xs := L.drop j) (by rw [List.length_append, List.length_take]; simp; omega) (by rw [List.length_drop, List.length_replicate])
 rw [List.append_nil, List.append_nil] at this
 rw [this, List.append_assoc]; rfl
theorem ins_callR {G : Nat → Option (DV × K)} {f : Nat} {k : K} {e : TypeId} (hL : Go.Proofs.InsL P (C.μ f) ρ k.size) (he : ρ.t 9 = e) (hk : kq P e = some k) {z : DV} (hz : zq P e = some z) (hb0 : P.bytesOf e ≠ 0) (hk0 : 0 < k.size) {args : List PV} {H H' : Heap} {r : PV} (h : insX k (P.bytesOf e) args H = some (r, H')) :
  CallR P C N G f args H r H' := by
 intro B w S β us hB hS hG hH hl hr
 have ht := hL.t24
 rw [he] at ht
 have hp : β H.length = .pend := hH.out _ (Nat.le_refl _)
 have hg := hok_grow hH 1
 have hlt : H.length < (H ++ List.replicate 1 none).length := by simp
 unfold insX at h
 split at h
 case h_2 => cases h
 rename_i x i ov kv offv lv tv
 split at h
 case h_2 => cases h
 rename_i y hy
 match us, hl with
 | [ux, ui, uv], _ =>
 have hxr := hr 0 (by simp) (by simp)
 have hir := hr 1 (by simp) (by simp)
 have hvr := hr 2 (by simp) (by simp)
 simp only [List.getElem_cons_zero, List.getElem_cons_succ] at hxr hir hvr
 have hui : ui = .int .i64 i := int_rel hir
 subst hui
 obtain ⟨vb, basev, hbv, capv, av, rfl, hav, hcv1⟩ : ∃ vb basev, β ov = .at vb basev k ∧ ∃ capv av, uv = .slice (some av) 1 capv ∧ av = ⟨vb, basev + offv * k.size, none⟩ ∧ 1 ≤ capv := by
  have hl1 : lv = 1 := by
   have := hy
   unfold elemsA at this
   simp only at this
   split at this
   ·split at this
    ·rename_i hc
     simp only [Bool.and_eq_true, decide_eq_true_eq] at hc
     simp only [Option.some.injEq] at this
     have h2 := congrArg List.length this
     simp only [List.length_take, List.length_drop, List.length_cons, List.length_nil] at h2
     omega
    ·cases this
   ·cases this
  subst hl1
  cases hvr with
  | r _ _ _ _ _ _ hfx hv =>
  have hkk : kv = k := by
   have := hy
   unfold elemsA at this
   simp only at this
   split at this
   ·split at this
    ·rename_i hc
     simp only [Bool.and_eq_true, decide_eq_true_eq] at hc
     exact (K.eq_spec hc.1.1).symm
    ·cases this
   ·cases this
  subst hkk
  unfold RelRf at hv
  split at hv
  ·exact hv.elim
  ·rename_i hb
   unfold elemsA at hy
   simp only [hH.dead ov hb] at hy
   cases hy
  ·obtain ⟨-, h1, -⟩ := hv; cases h1
  ·rename_i blk base k3 hb
   obtain ⟨e1, cap, a, rfl, e2, e3, -⟩ := hv
   subst e1
   exact ⟨blk, base, hb, cap, a, rfl, e2 (by omega), e3⟩
  ·exact hv.elim
 subst hav
 have hshape : ∀ {b0 : Nat} {cs : Array Value} {e0 : TypeId}, w.heap[b0]? = some (.cells cs e0 (0, 0)) → w.shape? b0 = some (e0, cs.size) := fun h => by unfold World.shape?; rw [h]
 have hfroz : ∀ {b0 : Nat} {cs : Array Value} {e0 : TypeId} (q : Nat), w.heap[b0]? = some (.cells cs e0 (0, 0)) → w.frozen? ⟨b0, q, none⟩ = false := fun q h => by unfold World.frozen?; simp [h]
 split at h
 ·
  rename_i o k' off len tt0 _
  replace hxr := rel_loose hxr
  split at h
  case h_2 => cases h
  rename_i k'' ro es ho
  split at h
  case isFalse => cases h
  rename_i hc
  simp only [Bool.and_eq_true, decide_eq_true_eq, Bool.not_eq_true'] at hc
  obtain ⟨⟨⟨⟨⟨⟨⟨hk1, hk2⟩, hle⟩, hro⟩, hi0⟩, hil⟩, hbig⟩, hne⟩ := hc
  have := K.eq_spec hk1
  subst this
  have := K.eq_spec hk2
  subst this
  have hoo : o ≠ ov := fun hq => by subst hq; rw [Nat.beq_refl] at hne; cases hne
  simp only [Option.some.injEq, Prod.mk.injEq] at h
  obtain ⟨rfl, rfl⟩ := h
  obtain ⟨j, rfl⟩ := Int.eq_ofNat_of_zero_le hi0
  have hjl : j ≤ len := by omega
  have holt := obj_lt ho
  have ho1 : Heap.obj (H ++ List.replicate 1 none) o = some (.sl k ro es) := by rw [obj_grow]; exact ho
  have hov1 : Heap.obj (H ++ List.replicate 1 none) ov = H.obj ov := obj_grow _ _ _
  have hpl : ((es.drop off).take len).length = len := by simp; omega
  have hnp : β o ≠ .pend := fun hq => by
   cases hxr with
   | r _ _ _ _ _ _ _ hx => unfold RelRf at hx; rw [hq] at hx; exact hx
  have hno : H.length ≠ o := by omega
  have hnv : H.length ≠ ov := fun hq => by rw [← hq, hp] at hbv; cases hbv
  rw [Int.toNat_natCast]
  by_cases hjn : j = len
  ·
   subst hjn
   obtain ⟨ur, w', e1, e2⟩ := appA_sound (P := P) (ts := #[ρ.t 24, ρ.t 24]) (id := H.length) hg hS hB hp hlt rfl rfl ht hk (.inl ⟨_, ht⟩) hz hb0 (ρ.t 24) (x := .r o k off j false) (y := .r ov kv offv lv tv) hxr hvr (v := .r H.length k 0 (j + 1) false) (H' := ((H ++ [none]).put o none).put H.length (some (.sl k (ro - off) ((es.drop off).take j ++ [y])))) (by
    have hy1 := elemsA_grow 1 hy
    unfold appA
    rw [hy1]
    simp only [ho1, List.length_singleton]
    have : (K.eq k k && K.eq k k && decide (off + j ≤ es.length) && decide ((j + 1) * P.bytesOf e ≤ 2 ^ 47)) = true := by
     simp only [Bool.and_eq_true, decide_eq_true_eq]; exact ⟨⟨⟨hk1, hk1⟩, hle⟩, hbig⟩
    rw [if_pos this]
    have hro' : ro ≤ off + j := by omega
    simp only [Bool.false_eq_true, if_false, hro', if_true]
    rfl)
   obtain ⟨bs, cp, rfl, hcp⟩ : ∃ bs cp, ux = .slice bs j cp ∧ j ≤ cp := by
    cases hxr with
    | r _ _ _ _ _ _ _ hx =>
    unfold RelRf at hx
    split at hx
    ·exact hx.elim
    ·rename_i hb; rw [hH.dead o hb] at ho; cases ho
    ·obtain ⟨-, rfl, a, rfl⟩ := hx; exact ⟨_, _, rfl, Nat.le_refl _⟩
    ·obtain ⟨-, cap, a, rfl, -, h3, -⟩ := hx; exact ⟨_, _, rfl, h3⟩
    ·exact hx.elim
   refine (Go.Proofs.ins_end hL bs j cp capv _ ur w w' hcp (fun ty => e1)).mono ?_
   rintro e3 w3 ⟨rfl, rfl⟩
   rw [ins_end_list hpl]
   have e5 : ro - off = 0 := by omega
   rw [e5] at e2
   obtain ⟨S', β', g1, g2, g3, g4, g5, g6, g7⟩ := leaves_grow rfl e2
   exact ⟨ur, S', β', rfl, g1, g2, g3, g4, g5, g6, g7⟩
  ·
   have hjlt : j < len := by omega
   obtain ⟨blk, base, hbo, cap, rfl, hcap, e', hsh⟩ : ∃ blk base, β o = .at blk base k ∧ ∃ cap, ux = .slice (some ⟨blk, base + off * k.size, none⟩) len cap ∧ len ≤ cap ∧ ∃ e' , ∃ n, w.shape? blk = some (e', n) ∧ base + (off + cap) * k.size ≤ n := by
    cases hxr with
    | r _ _ _ _ _ _ _ hx =>
    unfold RelRf at hx
    split at hx
    ·exact hx.elim
    ·rename_i hb; rw [hH.dead o hb] at ho; cases ho
    ·obtain ⟨-, rfl, -⟩ := hx; omega
    ·rename_i blk base k3 hb
     obtain ⟨e1, cap, a, rfl, e2, e3, -, e', n, e5, e6⟩ := hx
     subst e1
     rw [e2 (by omega)]
     exact ⟨blk, base, hb, cap, rfl, e3, e', n, e5, e6⟩
    ·exact hx.elim
   obtain ⟨n, hsh, hcapn⟩ := hsh
   obtain ⟨hBb, x', cells, e0, ho', hs, hw, hc⟩ := hH.live o blk base k hbo
   rw [ho] at ho'
   cases ho'
   obtain ⟨hbs, c, hf, hrr, hnS⟩ := hc
   have hcs : n = cells.size := by rw [hshape hw] at hsh; cases hsh; rfl
   subst hcs
   obtain ⟨hBv, xv, cellsv, ev, hov', hsv, hwv, -⟩ := hH.live ov vb basev k hbv
   have hvb : vb ≠ blk := fun hq => hoo (hH.inj o ov blk base k basev k hbo (hq ▸ hbv))
   have hcell : ∀ t, t < len → ∀ m, m < k.size → cells[base + off * k.size + t * k.size + m]? = some (c (off + t) m) ∧ flat (c (off + t) m) := by
    intro t ht m hm
    have := hf (off + t) (by omega) m hm
    rw [Nat.add_mul] at this
    have e1 : base + off * k.size + t * k.size + m = base + (off * k.size + t * k.size) + m := by omega
    rw [e1]; exact this
   have hrel : ∀ t (h : t < ((es.drop off).take len).length), RelD w S ((es.drop off).take len)[t] (mkV k (c (off + t))) := by
    intro t h
    rw [hpl] at h
    have := hrr (off + t) (by omega)
    simpa [List.getElem_drop, List.getElem_take] using this
   generalize hL0 : (es.drop off).take len = L at hpl hrel ⊢
   have hro3 : ro * k.size ≤ off * k.size := Nat.mul_le_mul_right _ hro
   have hend : (off + cap) * k.size = off * k.size + cap * k.size := Nat.add_mul _ _ _
   have hlc : len * k.size ≤ cap * k.size := Nat.mul_le_mul_right _ hcap
   have hjs : (j + 1) * k.size = j * k.size + k.size := by rw [Nat.add_mul, Nat.one_mul]
   have hls : (len - j) * k.size + j * k.size = len * k.size := by rw [← Nat.add_mul]; congr 1; omega
   have hcap47 : ∀ q, (q + 1) * P.bytesOf e ≤ 2 ^ 47 → q + 1 ≤ 140737488355328 := fun q h => by
    have : (q + 1) * 1 ≤ (q + 1) * P.bytesOf e := Nat.mul_le_mul_left _ (by omega)
    omega
   have hA1l : ((cells.toList.drop (base + off * k.size + j * k.size)).take ((len - j) * k.size)).length = (len - j) * k.size := by
    rw [List.length_take, List.length_drop, Array.length_toList]; omega
   have hA1g : ∀ q, q < (len - j) * k.size → ((cells.toList.drop (base + off * k.size + j * k.size)).take ((len - j) * k.size))[q]? = cells[base + off * k.size + j * k.size + q]? := by
    intro q hq
    rw [List.getElem?_take, if_pos hq, List.getElem?_drop, Array.getElem?_toList]
   have hcellq : ∀ q, q < (len - j) * k.size → ∃ v, cells[base + off * k.size + j * k.size + q]? = some v ∧ v.oneCell' = true := by
    intro q hq
    have h1 := hcell (j + q / k.size) (by
     have : q / k.size < len - j := (Nat.div_lt_iff_lt_mul hk0).2 hq
     omega) (q % k.size) (Nat.mod_lt _ hk0)
    have e1 : base + off * k.size + (j + q / k.size) * k.size + q % k.size = base + off * k.size + j * k.size + q := by
     have : q / k.size * k.size + q % k.size = q := by rw [Nat.mul_comm]; exact Nat.div_add_mod q k.size
     rw [Nat.add_mul]; omega
    rw [e1] at h1
    exact ⟨_, h1.1, h1.2⟩
   generalize hA1 : (cells.toList.drop (base + off * k.size + j * k.size)).take ((len - j) * k.size) = A1 at hA1l hA1g
   have hA1f : ∀ v ∈ A1, v.oneCell' = true := by
    intro v hv
    obtain ⟨q, hq, rfl⟩ := List.mem_iff_getElem.1 hv
    rw [hA1l] at hq
    obtain ⟨v, h1, h2⟩ := hcellq q hq
    have := hA1g q hq
    rw [h1, List.getElem?_eq_getElem (by omega), Option.some.injEq] at this
    rw [this]; exact h2
   have hread : ∀ (W : World), (∀ q, W.cell? ⟨blk, q, none⟩ = w.cell? ⟨blk, q, none⟩) → ∀ ln cp, (Builtin.firstCells k.size (len - j) (.slice (some ⟨blk, base + off * k.size + j * k.size, none⟩) ln cp)).run P W = .ok A1.toArray W := by
    intro W hW ln cp
    refine run_firstCells_some W k.size (len - j) _ ln cp A1 hA1l ?_
    intro q v hq
    have hql : q < (len - j) * k.size := by rw [← hA1l]; exact (List.getElem?_eq_some_iff.1 hq).1
    rw [add_at, hW]
    rw [hA1g q hql] at hq
    simpa [World.cell?, hw] using hq
   by_cases hroom : len + 1 ≤ cap
   ·
    have hpos : base + off * k.size + (j + 1) * k.size + A1.length ≤ cells.size := by
     have h1 : (len + 1) * k.size ≤ cap * k.size := Nat.mul_le_mul_right _ hroom
     rw [Nat.add_mul, Nat.one_mul] at h1
     rw [hA1l]; omega
    have hsz : (putAt cells.toList (base + off * k.size + (j + 1) * k.size) A1).toArray.size = cells.size := by
     have := putAt_length (l := cells.toList) (c := base + off * k.size + (j + 1) * k.size) (xs := A1) (by simpa using hpos)
     simpa using this
    have hget : ∀ q, (putAt cells.toList (base + off * k.size + (j + 1) * k.size) A1).toArray[q]? = if base + off * k.size + (j + 1) * k.size ≤ q ∧ q < base + off * k.size + (j + 1) * k.size + (len - j) * k.size then A1[q - (base + off * k.size + (j + 1) * k.size)]? else cells[q]? := by
     intro q
     have := putAt_get (l := cells.toList) (c := base + off * k.size + (j + 1) * k.size) (xs := A1) (by simpa using hpos) q
     rw [List.getElem?_toArray, this, hA1l]
     simp
    have hkeep : ∀ q, S blk q → (putAt cells.toList (base + off * k.size + (j + 1) * k.size) A1).toArray[q]? = cells[q]? := by
     intro q hq
     rw [hget, if_neg]
     intro hc
     exact hnS q (by omega) hq
    have hwd : w.drew.heap[blk]? = some (.cells cells e0 (0, 0)) := hw
    have hst : (storeCells ⟨blk, base + off * k.size + (j + 1) * k.size, none⟩ A1).run P w.drew = .ok () (w.drew.setRow blk (putAt cells.toList (base + off * k.size + (j + 1) * k.size) A1).toArray) := by
     have := run_storeCells_at P blk (base + off * k.size + (j + 1) * k.size) e0 A1 0 cells w.drew hwd (by simpa using hpos) hA1f
     simpa [putAt] using this
    have hcp1 : ∀ ty, (Builtin.copy_ #[ρ.t 24, ρ.t 24] ty #[.slice (some ⟨blk, base + off * k.size + (j + 1) * k.size, none⟩) (len - j) (cap - (j + 1)), .slice (some ⟨blk, base + off * k.size + j * k.size, none⟩) (len + 1 - j) (cap - j)]).run P w.drew = .ok (goInt (len - j : Nat)) (w.drew.setRow blk (putAt cells.toList (base + off * k.size + (j + 1) * k.size) A1).toArray) := fun ty =>
     copy_run (w := w.drew) (m := len + 1 - j) rfl ht hk (by simp [Builtin.lenOf]) (by omega) (hread w.drew (fun _ => rfl) _ _) (by simpa using hst) ty
    have hext0 : Ext B w S w.drew S := drew_ext
    have hmv := hok_move (id := H.length) (base' := base + off * k.size) hg.drew hbo hp hlt hno hwd hsz hkeep (x := .sl k 0 (L.take (j + 1) ++ L.drop j)) (by
     intro β' _
     have hLl : (L.take (j + 1) ++ L.drop j).length = len + 1 := by rw [List.length_append, List.length_take, List.length_drop]; omega
     have hext1 := write_ext (S := S) (B := B) (cells' := (putAt cells.toList (base + off * k.size + (j + 1) * k.size) A1).toArray) hBb hwd hsz hkeep
     refine ⟨?_, (fun t m => if t ≤ j then c (off + t) m else c (off + (t - 1)) m), ?_, ?_, ?_⟩
     ·have h1 : (len + 1) * k.size ≤ cap * k.size := Nat.mul_le_mul_right _ hroom
      rw [hsz, hLl]; omega
     ·intro t ht' m hm
      rw [hLl] at ht'
      rw [hget]
      by_cases htj : t ≤ j
      ·simp only [htj, if_true]
       have h1 : (t + 1) * k.size ≤ (j + 1) * k.size := Nat.mul_le_mul_right _ (by omega)
       rw [Nat.add_mul, Nat.one_mul] at h1
       rw [if_neg (by omega)]
       exact hcell t (by omega) m hm
      ·simp only [htj, if_false]
       have h1 : t * k.size = (j + 1) * k.size + (t - 1 - j) * k.size := by rw [← Nat.add_mul]; congr 1; omega
       have h2 : (t - 1 - j + 1) * k.size ≤ (len - j) * k.size := Nat.mul_le_mul_right _ (by omega)
       rw [Nat.add_mul, Nat.one_mul] at h2
       rw [if_pos (by omega)]
       have e1 : base + off * k.size + t * k.size + m - (base + off * k.size + (j + 1) * k.size) = (t - 1 - j) * k.size + m := by omega
       rw [e1, hA1g _ (by omega)]
       have h3 := hcell (t - 1) (by omega) m hm
       have h4 : (t - 1) * k.size = j * k.size + (t - 1 - j) * k.size := by rw [← Nat.add_mul]; congr 1; omega
       have e2 : base + off * k.size + (t - 1) * k.size + m = base + off * k.size + j * k.size + ((t - 1 - j) * k.size + m) := by omega
       rw [e2] at h3
       exact h3
     ·intro t ht'
      have htl := ht'
      rw [hLl] at htl
      by_cases htj : t ≤ j
      ·simp only [htj, if_true]
       have e1 : (L.take (j + 1) ++ L.drop j)[t] = L[t]'(by omega) := by
        rw [List.getElem_append_left (by rw [List.length_take]; omega), List.getElem_take]
       rw [e1]
       exact ((hrel t (by omega)).ext hext0).ext hext1
      ·simp only [htj, if_false]
       have e1 : (L.take (j + 1) ++ L.drop j)[t] = L[t - 1]'(by omega) := by
        have e2 : (L.take (j + 1)).length = j + 1 := by rw [List.length_take]; omega
        rw [List.getElem_append_right (by omega), List.getElem_drop]
        simp only [e2]
        congr 1; omega
       rw [e1]
       exact ((hrel (t - 1) (by omega)).ext hext0).ext hext1
     ·intro q hq
      exact hnS q (by omega))
    obtain ⟨hH1, hlat⟩ := hmv
    have hext1 := write_ext (S := S) (B := B) (cells' := (putAt cells.toList (base + off * k.size + (j + 1) * k.size) A1).toArray) hBb hwd hsz hkeep
    have hext := hext0.trans hext1
    have hS1 : Swf (w.drew.setRow blk (putAt cells.toList (base + off * k.size + (j + 1) * k.size) A1).toArray) S := hS.ext hext
    generalize hW1 : w.drew.setRow blk (putAt cells.toList (base + off * k.size + (j + 1) * k.size) A1).toArray = W1 at hcp1 hH1 hext hS1
    generalize hβ1 : upd (upd β o BO.dead) H.length (BO.at blk (base + off * k.size) (Obj.sl k 0 (L.take (j + 1) ++ L.drop j)).shape) = β1 at hH1 hlat
    have hβid : β1 H.length = .at blk (base + off * k.size) k := by rw [← hβ1, upd_same]; rfl
    have hsh1 : W1.shape? blk = some (e', cells.size) := hext.shape _ _ _ hsh
    have hx1 : RelV C W1 S β1 (.r H.length k j (len + 1 - j) false) (.slice (some ⟨blk, base + off * k.size + j * k.size, none⟩) (len + 1 - j) (cap - j)) := by
     refine .r _ _ _ _ _ _ rfl ?_
     unfold RelRf
     rw [hβid]
     refine ⟨rfl, cap - j, _, rfl, fun _ => rfl, by omega, (fun h => by cases h), e', cells.size, hsh1, ?_⟩
     have : j + (cap - j) = cap := by omega
     rw [this]; omega
    have hv1 := hvr.ext hext hlat
    have hobj1 : Heap.obj (((H ++ List.replicate 1 none).put o none).put H.length (some (.sl k 0 (L.take (j + 1) ++ L.drop j)))) ov = H.obj ov := by
     rw [obj_put_ne (fun h => hnv h), obj_put_ne hoo, hov1]
    have hy1 : elemsA (((H ++ List.replicate 1 none).put o none).put H.length (some (.sl k 0 (L.take (j + 1) ++ L.drop j)))) k (.r ov kv offv lv tv) = some [y] := by
     unfold elemsA at hy ⊢
     simp only [hobj1]
     exact hy
    have hob1 : Heap.obj (((H ++ List.replicate 1 none).put o none).put H.length (some (.sl k 0 (L.take (j + 1) ++ L.drop j)))) H.length = some (.sl k 0 (L.take (j + 1) ++ L.drop j)) := obj_put_same (by rw [put_length]; exact hlt)
    have hLl : (L.take (j + 1) ++ L.drop j).length = len + 1 := by rw [List.length_append, List.length_take, List.length_drop]; omega
    obtain ⟨W2, c1, c2, c3, c4⟩ := copyA_sound (P := P) (ts := #[ρ.t 24, ρ.t 24]) hH1 hS1 rfl ht hk hx1 hob1 (by rw [hLl]; omega) (Nat.zero_le _) hv1 hy1 (ρ.t 24)
    have e1 : min [y].length (len + 1 - j) = 1 := by simp; omega
    rw [e1] at c1 c4
    have e2 : [y].take 1 = [y] := rfl
    rw [e2, ins_shift_list (by omega)] at c4
    have hc47 := hcap47 len hbig
    refine (Go.Proofs.ins_shift hL blk (base + off * k.size) len cap j vb (basev + offv * k.size) capv w W1 W2 hjlt hroom (by omega) hvb ev e0 cellsv.size cells.size (hshape hwv) (hshape hw) (by omega) (hfroz _ hwv) (hfroz _ hwv) hcp1 (fun ty => c1)).mono ?_
    rintro e3 w3 ⟨rfl, rfl⟩
    refine ⟨_, S, β1, rfl, hext.trans c2, c3, ?_, hlat, ?_, by simp [put_length], ?_⟩
    ·have e5 : ((H ++ List.replicate 1 none).put o none).put H.length (some (Obj.sl k 0 (L.take (j + 1) ++ L.drop j))) = ((H ++ [none]).put o none).put H.length (some (Obj.sl k 0 (L.take (j + 1) ++ L.drop j))) := rfl
     have e6 : ∀ (X : Heap) (p : Nat) (a b : Option Obj), (X.put p a).put p b = X.put p b := by intro X p a b; simp [Heap.put]
     rw [e6] at c4
     exact c4
    ·refine .r _ _ _ _ _ _ rfl ?_
     unfold RelRf
     rw [hβid]
     refine ⟨rfl, cap, _, rfl, fun _ => by simp, hroom, (fun h => by cases h), e', cells.size, c2.shape _ _ _ hsh1, ?_⟩
     rw [Nat.zero_add]; omega
    ·intro p h1 h2 h3
     rw [← hβ1, upd_ne (by omega), upd_ne (fun hq => by subst hq; exact hnp h3)]; exact h3
   ·
    have hcl : cap = len := by omega
    obtain ⟨kz, zv, hkz, hzv, hfz, hrz⟩ := zq_rel hz
    rw [hk] at hkz; cases hkz
    have hzs : zv.cells.size = k.size := (zero_crel (C := C) (w := w) (S := S) (β := β) hfz hrz).2
    obtain ⟨i0, hi0, hz0⟩ := Option.bind_eq_some_iff.1 hzv
    have hbi : P.bytesOf e = i0.bytes := by simp [Program.bytesOf, hi0]
    have hki : i0.size = k.size := by rw [← kq_size hk]; simp [Program.cellsOf, hi0]
    have hxj : RelV C w S β (.r o k off j false) (.slice (some ⟨blk, base + off * k.size, none⟩) j cap) := by
     refine .r _ _ _ _ _ _ rfl ?_
     unfold RelRf
     rw [hbo]
     exact ⟨rfl, cap, _, rfl, fun _ => rfl, by omega, (fun h => by cases h), e', cells.size, hsh, hcapn⟩
    obtain ⟨A, hrA⟩ := elemsA_sound (P := P) hH (k := k) (ys := L.take j) hxj (by
     have e1 : L.take j = (es.drop off).take j := by rw [← hL0, List.take_take, Nat.min_eq_left hjl]
     rw [e1]
     have e2 : (K.eq k k && K.eq k k && decide (off + j ≤ es.length)) = true := by
      simp only [Bool.and_eq_true, decide_eq_true_eq]; exact ⟨⟨hk1, hk1⟩, by omega⟩
     simp only [elemsA, ho, e2, if_true])
    have hLj : (L.take j).length = j := by rw [List.length_take]; omega
    have hold := hrA.drew
    rw [hLj] at hold
    have hAl : A.length = j * k.size := by have := hrA.size; rw [hLj] at this; exact this
    have hjk : j + (len + 1 - j) = len + 1 := by omega
    have hfit := growslice_fits (need := len + 1) (old := cap) (bytes := i0.bytes) (by omega) (by rw [← hbi]; exact Nat.le_trans hbig (by decide))
    have hrz1 : ∀ ty, (Builtin.append_ #[ρ.t 24, ρ.t 3] ty #[.slice (some ⟨blk, base + off * k.size, none⟩) j cap, .int .i64 ((len : Int) + 1 - (j : Int))]).run P w =
      .ok (.slice (some ⟨w.heap.size, 0, none⟩) (len + 1) (grownCap w (len + 1) cap e)) (w.drew.alloc (.cells (A.toArray ++ Builtin.zeroCells zv.cells (len + 1 - j) ++ Builtin.zeroCells zv.cells (grownCap w (len + 1) cap e - (len + 1))) e)) := by
     intro ty
     have hkk : (len : Int) + 1 - (j : Int) = ((len + 1 - j : Nat) : Int) := by omega
     have h48 : (len + 1 - j) * i0.bytes ≤ 281474976710656 := by
      have : (len + 1 - j) * i0.bytes ≤ (len + 1) * i0.bytes := Nat.mul_le_mul_right _ (by omega)
      rw [hbi] at hbig; omega
     have h := Lib.run_append_grow_zeros w (ρ.t 24) (ρ.t 3) ty e i0 zv .i64 .i64 ht hL.t3 hi0 hz0 (some ⟨blk, base + off * k.size, none⟩) j cap A (by rw [hki]; exact hold) (len + 1 - j) (by omega) (by omega) (by omega) (by have := hcap47 len hbig; omega) h48 (by rw [hjk]; exact hfit)
     rw [hjk] at h
     rw [hkk]
     exact h
    have hGn : len + 1 ≤ grownCap w (len + 1) cap e := grownCap_ge w _ _ _
    generalize hG0 : grownCap w (len + 1) cap e = GC at hrz1 hGn
    have hzr := zrow (w := w) (S := S) (n := len + 1 - j) hfz hrz zv.cells (fun _ => rfl)
    have hzc : ((Array.range ((len + 1 - j) * k.size)).map (zv.cells[· % zv.cells.size]!)).toList = (Builtin.zeroCells zv.cells (len + 1 - j)).toList := by
     unfold Builtin.zeroCells; rw [hzs]
    rw [hzc] at hzr
    have hzl : (Builtin.zeroCells zv.cells (len + 1 - j)).toList.length = (List.replicate (len + 1 - j) z).length * k.size := by
     rw [Array.length_toList, zeroCells_size, hzs, List.length_replicate]
    have hrow := ((hrA.rel.append hrA.size (hzr)).ext (drew_ext (B := B))).pad (A' := (Builtin.zeroCells zv.cells (GC - (len + 1))).toList)
    have hSd : Swf w.drew S := hS.ext (drew_ext (B := B))
    obtain ⟨a1, a2, a3, a4⟩ := new_row_at hg.drew hSd hB hp hlt hrow e 0 (len := len + 1) (cap := GC) (tt := false) (by
     have h1 := zeroCells_size zv.cells (GC - (len + 1))
     rw [hzs] at h1
     simp only [List.length_append, h1, hAl, hzl, List.length_replicate, Array.length_toList]
     rw [← Nat.add_mul, ← Nat.add_mul]
     exact Nat.mul_le_mul_right _ (by omega)) hGn (fun h => by cases h)
    have e1 : (A ++ (Builtin.zeroCells zv.cells (len + 1 - j)).toList ++ (Builtin.zeroCells zv.cells (GC - (len + 1))).toList).toArray = A.toArray ++ Builtin.zeroCells zv.cells (len + 1 - j) ++ Builtin.zeroCells zv.cells (GC - (len + 1)) := by
     apply Array.ext'; simp
    rw [e1] at a1 a2 a4
    have hext : Ext B w S _ S := (drew_ext (B := B)).trans a1
    have hS1 := hSd.ext a1
    have hM : w.drew.heap.size = w.heap.size := rfl
    rw [hM] at a2 a3 a4
    generalize hW1 : w.drew.alloc (.cells (A.toArray ++ Builtin.zeroCells zv.cells (len + 1 - j) ++ Builtin.zeroCells zv.cells (GC - (len + 1))) e) = W1 at hrz1 a1 a2 a4 hext hS1
    generalize hβ1 : upd β H.length (BO.at w.heap.size 0 k) = β1 at a2 a3 a4
    have hβid : β1 H.length = .at w.heap.size 0 k := by rw [← hβ1, upd_same]
    have hβo : β1 o = .at blk base k := by rw [← hβ1, upd_ne (fun h => hno h.symm)]; exact hbo
    obtain ⟨ee, nn, hshM, hshN⟩ : ∃ ee nn, W1.shape? w.heap.size = some (ee, nn) ∧ GC * k.size ≤ nn := by
     cases a4 with
     | r _ _ _ _ _ _ _ hx =>
     unfold RelRf at hx
     rw [hβid] at hx
     obtain ⟨-, cap1, a, h1, -, -, -, e5, n5, h5, h6⟩ := hx
     cases h1
     refine ⟨e5, n5, h5, ?_⟩
     simpa using h6
    generalize hes1 : L.take j ++ List.replicate (len + 1 - j) z = es1 at a2
    have hel : es1.length = len + 1 := by rw [← hes1, List.length_append, hLj, List.length_replicate]; omega
    have hob1 : Heap.obj ((H ++ List.replicate 1 none).put H.length (some (.sl k 0 es1))) H.length = some (.sl k 0 es1) := obj_put_same hlt
    have hoo1 : ∀ q, q ≠ H.length → Heap.obj ((H ++ List.replicate 1 none).put H.length (some (.sl k 0 es1))) q = H.obj q := fun q hq => by rw [obj_put_ne (fun h => hq h.symm), obj_grow]
    have hv1 := hvr.ext hext a3
    have hy1 : elemsA ((H ++ List.replicate 1 none).put H.length (some (.sl k 0 es1))) k (.r ov kv offv lv tv) = some [y] := by
     unfold elemsA at hy ⊢
     simp only [hoo1 ov (fun h => hnv h.symm)]
     exact hy
    have hgk : ∀ q, q ≤ GC → q * k.size + (GC - q) * k.size = GC * k.size := fun q hq => by rw [← Nat.add_mul]; congr 1; omega
    have hx1 : RelV C W1 S β1 (.r H.length k j (len + 1 - j) false) (.slice (some ⟨w.heap.size, j * k.size, none⟩) (len + 1 - j) (GC - j)) := by
     refine .r _ _ _ _ _ _ rfl ?_
     unfold RelRf
     rw [hβid]
     refine ⟨rfl, GC - j, _, rfl, fun _ => by rw [Nat.zero_add], by omega, (fun h => by cases h), ee, nn, hshM, ?_⟩
     rw [Nat.add_mul, Nat.zero_add, hgk j (by omega)]; exact hshN
    obtain ⟨W2, c1, c2, c3, c4⟩ := copyA_sound (P := P) (ts := #[ρ.t 24, ρ.t 24]) a2 hS1 rfl ht hk hx1 hob1 (by rw [hel]; omega) (Nat.zero_le _) hv1 hy1 (ρ.t 24)
    have e2 : min [y].length (len + 1 - j) = 1 := by simp; omega
    rw [e2] at c1 c4
    have e3 : [y].take 1 = [y] := rfl
    rw [e3] at c4
    have hpp : ∀ (X : Heap) (p : Nat) (a b : Option Obj), (X.put p a).put p b = X.put p b := by intro X p a b; simp [Heap.put]
    rw [hpp] at c4
    have hel2 : (putAt es1 j [y]).length = len + 1 := by rw [putAt_length (by rw [hel]; simp; omega), hel]
    have hext2 : Ext B w S W2.drew S := (hext.trans c2).trans drew_ext
    have hext12 : Ext B W1 S W2.drew S := c2.trans drew_ext
    have hx2 : RelV C W2.drew S β1 (.r H.length k (j + 1) (len - j) false) (.slice (some ⟨w.heap.size, (j + 1) * k.size, none⟩) (len - j) (GC - (j + 1))) := by
     refine .r _ _ _ _ _ _ rfl ?_
     unfold RelRf
     rw [hβid]
     refine ⟨rfl, GC - (j + 1), _, rfl, fun _ => by rw [Nat.zero_add], by omega, (fun h => by cases h), ee, nn, hext12.shape _ _ _ hshM, ?_⟩
     rw [Nat.add_mul, Nat.zero_add, hgk (j + 1) (by omega)]; exact hshN
    have hs2 : RelV C W2.drew S β1 (.r o k (off + j) (len - j) false) (.slice (some ⟨blk, base + off * k.size + j * k.size, none⟩) (len - j) (cap - j)) := by
     refine .r _ _ _ _ _ _ rfl ?_
     unfold RelRf
     rw [hβo]
     refine ⟨rfl, cap - j, _, rfl, fun _ => by rw [Nat.add_mul, Nat.add_assoc], by omega, (fun h => by cases h), e', cells.size, hext2.shape _ _ _ hsh, ?_⟩
     have : off + j + (cap - j) = off + cap := by omega
     rw [this]; exact hcapn
    have hob2 : Heap.obj ((H ++ List.replicate 1 none).put H.length (some (.sl k 0 (putAt es1 j [y])))) H.length = some (.sl k 0 (putAt es1 j [y])) := obj_put_same hlt
    have hy2 : elemsA ((H ++ List.replicate 1 none).put H.length (some (.sl k 0 (putAt es1 j [y])))) k (.r o k (off + j) (len - j) false) = some (L.drop j) := by
     have h1 : Heap.obj ((H ++ List.replicate 1 none).put H.length (some (.sl k 0 (putAt es1 j [y])))) o = some (.sl k ro es) := by rw [obj_put_ne hno, ho1]
     have h2 : (K.eq k k && K.eq k k && decide (off + j + (len - j) ≤ es.length)) = true := by
      simp only [Bool.and_eq_true, decide_eq_true_eq]; exact ⟨⟨hk1, hk1⟩, by omega⟩
     simp only [elemsA, h1, h2, if_true, ← hL0]
     rw [List.drop_take, List.drop_drop]
    obtain ⟨W3, d1, d2, d3, d4⟩ := copyA_sound (P := P) (ts := #[ρ.t 24, ρ.t 24]) c4.drew (c3.ext (drew_ext (B := B))) rfl ht hk hx2 hob2 (by rw [hel2]; omega) (Nat.zero_le _) hs2 hy2 (ρ.t 24)
    have hdl : (L.drop j).length = len - j := by rw [List.length_drop]; omega
    have e4 : min (L.drop j).length (len - j) = len - j := by omega
    rw [e4] at d1 d4
    have e5 : (L.drop j).take (len - j) = L.drop j := List.take_of_length_le (by omega)
    rw [e5, hpp, ← hes1] at d4
    have e6 : len + 1 - j = L.length + 1 - j := by rw [hpl]
    rw [e6, ins_grow_list (by omega)] at d4
    have hc47 := hcap47 len hbig
    refine (Go.Proofs.ins_grow hL blk (base + off * k.size) len cap j capv w.heap.size GC ⟨vb, basev + offv * k.size, none⟩ w W1 W2 W3 hjlt hcap (by omega) (by omega) hGn hrz1 (fun ty => c1) (fun ty => d1)).mono ?_
    rintro e7 w3 ⟨rfl, rfl⟩
    have holt2 : o < ((H ++ List.replicate 1 none).put H.length (some (.sl k 0 (L.take j ++ y :: L.drop j)))).length := by rw [put_length, List.length_append]; omega
    obtain ⟨k1, k2⟩ := hok_kill d4 o holt2
    have hlat2 := a3.trans (k2 (by rw [hβo]; simp))
    refine ⟨_, S, upd β1 o .dead, rfl, (hext2.trans d2), d3, ?_, hlat2, ?_, by simp [put_length], ?_⟩
    ·have e8 : ((H ++ List.replicate 1 none).put H.length (some (Obj.sl k 0 (L.take j ++ y :: L.drop j)))).put o none = ((H ++ [none]).put o none).put H.length (some (Obj.sl k 0 (L.take j ++ y :: L.drop j))) := by
      show List.set (List.set (H ++ [none]) _ _) _ _ = List.set (List.set (H ++ [none]) _ _) _ _
      exact (List.set_comm _ _ hno).symm ▸ rfl
     rw [← e8]; exact k1
    ·refine .r _ _ _ _ _ _ rfl ?_
     unfold RelRf
     rw [upd_ne hno, hβid]
     refine ⟨rfl, GC, _, rfl, fun _ => by simp, hGn, (fun h => by cases h), ee, nn, d2.shape _ _ _ (hext12.shape _ _ _ hshM), ?_⟩
     simpa using hshN
    ·intro p h1 h2 h3
     rw [upd_ne (fun hq => by subst hq; exact hnp h3), ← hβ1, upd_ne (by omega)]; exact h3
 ·
  split at h
  case isFalse => cases h
  rename_i hc
  simp only [Bool.and_eq_true, decide_eq_true_eq] at hc
  obtain ⟨rfl, hb⟩ := hc
  simp only [Option.some.injEq, Prod.mk.injEq] at h
  obtain ⟨rfl, rfl⟩ := h
  rename_i k0 _
  obtain ⟨a, rfl⟩ : ∃ a, ux = .slice a 0 0 := by
   cases hxr with
   | d _ _ hx =>
   cases hx with
   | l _ _ _ a cap blk off c c1 c2 c3 c4 c5 => have := c2 rfl; simp at this; subst this; exact ⟨a, rfl⟩
  obtain ⟨ur, w', e1, e2⟩ := appA_sound (P := P) (ts := #[ρ.t 24, ρ.t 24]) (id := H.length) hg hS hB hp hlt rfl rfl ht hk (.inl ⟨_, ht⟩) hz hb0 (ρ.t 24) (y := .r ov kv offv lv tv) hxr hvr (v := .r H.length k 0 1 false) (H' := (H ++ [none]).put H.length (some (.sl k 0 [y]))) (by
   have hy1 := elemsA_grow 1 hy
   unfold appA
   rw [hy1]
   have : (([] : List DV).length + [y].length) * P.bytesOf e ≤ 2 ^ 47 := by simpa using hb
   simp only [if_true, this]
   rfl)
  refine (Go.Proofs.ins_end hL a 0 0 capv _ ur w w' (Nat.le_refl _) (fun ty => e1)).mono ?_
  rintro e3 w3 ⟨rfl, rfl⟩
  obtain ⟨S', β', g1, g2, g3, g4, g5, g6, g7⟩ := leaves_grow rfl e2
  exact ⟨ur, S', β', rfl, g1, g2, g3, g4, g5, g6, g7⟩
 ·cases h
end
end Go.Sim
end
section
open Go.RowKit Go.Sort
namespace Go.Sim
section
variable {P : Program} {N : Names} {C : Cx} {w : World} {S : Stab} {β : Pl} {B : Nat} {H : Heap} {a : Act} {E : Env} {ρ : Go.Shelf.Ren}
theorem tab_of_gok {G : Nat → Option (DV × K)} (hG : GOK N G w S) {name : String} {g : Nat} (hg : P.globalNamed name = some g) {k : IntKind} {zs : List Int} (h : G (N.g g) = some (.a (zs.map fun z => .i k z), some zs.length)) : Lib.TabIs P w name k zs := by
 obtain ⟨⟨e, h0⟩, f, h1, h2⟩ := hG g _ _ h
 unfold Lib.TabIs World.var?
 rw [hg]
 simp only [Option.bind_some]
 unfold World.shape? at h0
 split at h0
 ·rename_i cs el fz hw
  simp only [Option.some.injEq, Prod.mk.injEq] at h0
  obtain ⟨rfl, hsz⟩ := h0
  rw [hw]
  simp only [Option.some.injEq]
  change cs.size = zs.length at hsz
  have hcell : ∀ j (hj : j < zs.length), cs[j]? = some (.int k zs[j]) := by
   intro j hj
   have h3 := (h1 j hj).1
   simp only [World.cell?, hw, Nat.zero_add] at h3
   have h4 : f j = .int k zs[j] := by
    change RelD w S _ (.agg ((List.range zs.length).map f).toArray) at h2
    generalize hu : (Value.agg ((List.range zs.length).map f).toArray) = u at h2
    cases h2 with
    | a cs' us hl hfl hr =>
    simp only [Value.agg.injEq] at hu
    have hu' : (List.range zs.length).map f = us := by simpa using congrArg Array.toList hu
    subst hu'
    have := hr j (by simpa using hj) (by simpa using hj)
    simp only [List.getElem_map, List.getElem_range] at this
    generalize f j = v at this
    cases this; rfl
   rw [← h4]; simpa using h3
  apply Array.ext
  ·simpa using hsz
  ·intro j hj hj'
   have := hcell j (by simpa using hj')
   rw [Array.getElem?_eq_getElem hj, Option.some.injEq] at this
   rw [this]
   simp
 ·cases h0
theorem grow_ext : ∀ (os : List Go.Obj) (w : World), Swf w S → B ≤ w.heap.size → Ext B w S (grow w os.toArray) S
 | [], w, _, _ => by simp; exact Ext.refl _ _ _
 | o :: os, w, hS, hB => by
  have e1 : grow w (o :: os).toArray = grow (w.alloc o) os.toArray := by rw [alloc_eq_grow, grow_grow]; congr 1; simp
  rw [e1]
  have h1 := alloc_ext hS hB o
  exact h1.trans (grow_ext os _ (hS.ext h1) (Nat.le_trans hB h1.below.size))
theorem drewN_ext (n : Nat) : Ext B w S (w.drewN n) S := by
 induction n with
 | zero => exact Ext.refl _ _ _
 | succ n ih => exact ih.trans (drew_ext (B := B) (w := w.drewN n))
def decF : Nat → Nat → List UInt8 → List UInt8
 | 0, _, acc => acc
 | n + 1, u, acc => if u < 10 then UInt8.ofNat (48 + u) :: acc else decF n (u / 10) (UInt8.ofNat (48 + u % 10) :: acc)
theorem decF_eq : ∀ (n u : Nat) (acc : List UInt8), u < 10 ^ (n + 1) → decF (n + 1) u acc = Lib.decDigits u ++ acc
 | 0, u, acc, h => by
  have : u < 10 := by simpa using h
  rw [decF, Lib.decDigits, if_pos this, dif_pos this]; rfl
 | n + 1, u, acc, h => by
  rw [decF, Lib.decDigits]
  split
  ·rfl
  ·rw [decF_eq n (u / 10) _ (by rw [Nat.pow_succ] at h; omega), List.append_assoc]; rfl
def itoaB (n : Int) : List UInt8 := match n with
 | .ofNat u => decF 20 u []
 | .negSucc u => 45 :: decF 20 (u + 1) []
theorem itoaB_eq {n : Int} (h0 : -9223372036854775808 ≤ n) (h1 : n ≤ 9223372036854775807) : itoaB n = Lib.itoa n := by
 cases n with
 | ofNat u =>
  have : u < 10 ^ 20 := by have := h1; simp only [Int.ofNat_eq_natCast] at this; omega
  rw [itoaB, decF_eq 19 u [] this, List.append_nil, Lib.itoa, if_neg (by simp)]; rfl
 | negSucc u =>
  have : u + 1 < 10 ^ 20 := by omega
  rw [itoaB, decF_eq 19 (u + 1) [] this, List.append_nil, Lib.itoa, if_pos (by omega)]; rfl
def itoaX (ds : List DV) : Option (PV × Bool) := match ds with
 | [.i .i64 n] => if -9223372036854775808 ≤ n ∧ n ≤ 9223372036854775807 then some (.d (.s (itoaB n)), false) else none
 | _ => none
theorem itoa_calls {G : Nat → Option (DV × K)} {f : Nat} (L : Go.Proofs.LaysM.n171 P ρ) (hf : C.μ f = ρ.f 171) (hg : G (N.g (ρ.g 17)) = some (.a (Lib.pow10Tab.map fun z => .i .u64 z), some 20)) {ds : List DV} {r : PV} {own : Bool} (h : itoaX ds = some (r, own)) : CallV P C N G f ds r own := by
 unfold itoaX at h
 split at h
 case h_2 => cases h
 rename_i n
 split at h
 case isFalse => cases h
 rename_i hn
 simp only [Option.some.injEq, Prod.mk.injEq] at h
 obtain ⟨rfl, rfl⟩ := h
 intro w S us hS hG hl hr
 match us, hl with
 | [u], _ =>
 have h0 := hr 0 (by simp) (by simp)
 simp only [List.getElem_cons_zero] at h0
 have hu : u = .int .i64 n := by cases h0; rfl
 subst hu
 have htab : Lib.TabIs P w "internal/strconv.uint64pow10" .u64 Lib.pow10Tab := tab_of_gok hG L.m17 (by rw [Lib.pow10Tab_length]; exact hg)
 rw [hf]
 refine (Go.Proofs.Any.strconv_Itoa L n hn.1 hn.2 w htab).mono ?_
 rintro e w' ⟨rfl, k, os, rfl⟩
 have e1 : Ext w.heap.size w S (grow (w.drewN k) os) S := by
  have h1 : Ext w.heap.size w S (w.drewN k) S := drewN_ext k
  have h2 := grow_ext (B := w.heap.size) os.toList (w.drewN k) (hS.ext h1) h1.below.size
  simp only [Array.toArray_toList] at h2
  exact h1.trans h2
 refine ⟨_, S, rfl, e1, hS.ext e1, fun _ => .d _ _ (.s _ _ ?_), fun h => by cases h⟩
 rw [itoaB_eq hn.1 hn.2]
end
end Go.Sim
end
section
open Go.RowKit Go.Sort
namespace Go.Sim
section
variable {P : Program} {N : Names} {C : Cx} {w : World} {S : Stab} {β : Pl} {B : Nat} {H : Heap} {a : Act} {E : Env} {ρ : Go.Shelf.Ren}
theorem below_ext (hS : Swf w S) {w' : World} (h : Below w.heap.size w w') : Ext w.heap.size w S w' S := by
 refine ⟨h, fun _ _ h => h, ?_, fun _ _ h => .inl h, ?_⟩
 ·intro b j hs
  have hlt := hS.lt hs
  simp only [World.cell?, h.block b hlt]
 ·intro b e n hs
  have hlt : b < w.heap.size := by
   unfold World.shape? at hs
   split at hs
   ·rename_i hw; exact (Array.getElem?_eq_some_iff.1 hw).1
   ·cases hs
  simp only [World.shape?, h.block b hlt] at hs ⊢
  exact hs
def repL (l : List UInt8) : Nat → List UInt8
 | 0 => []
 | n + 1 => l ++ repL l n
def repX (ds : List DV) : Option (PV × Bool) := match ds with
 | [.s l, .i .i64 n] => if 0 ≤ n ∧ n ≤ 140737488355328 ∧ l.length * n.toNat ≤ 140737488355328 then some (.d (.s (repL l n.toNat)), false) else none
 | _ => none
theorem repL_eq (l : List UInt8) : ∀ n, repL l n = Lib.repeatL l n
 | 0 => rfl
 | n + 1 => by rw [repL, repL_eq l n]; rfl
theorem rep_calls {G : Nat → Option (DV × K)} {f : Nat} (L : Go.Proofs.Lays.n105 P ρ) (X : Go.Proofs.Builder.Extra P ρ) (hf : C.μ f = ρ.f 105) {ds : List DV} {r : PV} {own : Bool} (h : repX ds = some (r, own)) : CallV P C N G f ds r own := by
 unfold repX at h
 split at h
 case h_2 => cases h
 rename_i l n
 split at h
 case isFalse => cases h
 rename_i hn
 obtain ⟨h1, h2, h3⟩ := hn
 simp only [Option.some.injEq, Prod.mk.injEq] at h
 obtain ⟨rfl, rfl⟩ := h
 intro w S us hS hG hl hr
 match us, hl with
 | [u, v], _ =>
 have k0 := hr 0 (by simp) (by simp)
 have k1 := hr 1 (by simp) (by simp)
 simp only [List.getElem_cons_zero, List.getElem_cons_succ] at k0 k1
 obtain ⟨s, rfl, hs⟩ : ∃ s : ByteArray, u = .string s ∧ s.data.toList = l := by
  cases k0 with
  | s _ x hx => exact ⟨x, rfl, hx⟩
 have hv : v = .int .i64 n := by cases k1; rfl
 subst hv hs
 obtain ⟨c, rfl⟩ := Int.eq_ofNat_of_zero_le h1
 rw [hf]
 refine (Go.Proofs.Any.strings_Repeat L X s c w (by omega) (by simpa using h3)).mono ?_
 rintro e w' ⟨rfl, hb⟩
 have e1 := below_ext hS hb
 refine ⟨_, S, rfl, e1, hS.ext e1, fun _ => .d _ _ (.s _ _ ?_), fun h => by cases h⟩
 rw [repL_eq]; simp
end
end Go.Sim
end
section
open Go.RowKit Go.Sort
namespace Go.Sim
section
variable {P : Program} {N : Names} {C : Cx} {ρ : Go.Shelf.Ren}
def cntB (l : List UInt8) (c : UInt8) : Nat := match l with
 | [] => 0
 | x :: r => if x == c then cntB r c + 1 else cntB r c
def cntX (ds : List DV) : Option (PV × Bool) := match ds with
 | [.s l, .s [c]] => some (.d (.i .i64 (cntB l c)), false)
 | _ => none
theorem cntB_eq (l : List UInt8) (c : UInt8) : cntB l c = Lib.countByte l c := by
 induction l with
 | nil => rfl
 | cons x r ih =>
  simp only [cntB, ih, Lib.countByte, List.count_cons]
  split <;> rfl
theorem cnt_calls {G : Nat → Option (DV × K)} {f : Nat} (L : Go.Proofs.Lays.n138 P ρ) (hf : C.μ f = ρ.f 138) {ds : List DV} {r : PV} {own : Bool} (h : cntX ds = some (r, own)) : CallV P C N G f ds r own := by
 unfold cntX at h
 split at h
 case h_2 => cases h
 rename_i l c
 simp only [Option.some.injEq, Prod.mk.injEq] at h
 obtain ⟨rfl, rfl⟩ := h
 intro w S us hS hG hl hr
 match us, hl with
 | [u, v], _ =>
 have k0 := hr 0 (by simp) (by simp)
 have k1 := hr 1 (by simp) (by simp)
 simp only [List.getElem_cons_zero, List.getElem_cons_succ] at k0 k1
 obtain ⟨s, rfl, hs⟩ : ∃ s : ByteArray, u = .string s ∧ s.data.toList = l := by
  cases k0 with
  | s _ x hx => exact ⟨x, rfl, hx⟩
 obtain ⟨t, rfl, ht⟩ : ∃ s : ByteArray, v = .string s ∧ s.data.toList = [c] := by
  cases k1 with
  | s _ x hx => exact ⟨x, rfl, hx⟩
 have ht' : t = ⟨#[c]⟩ := by
  obtain ⟨⟨t⟩⟩ := t
  simp only at ht
  subst ht
  rfl
 subst ht' hs
 rw [hf]
 refine (Go.Proofs.Any.strings_Count_one L s c w).mono ?_
 rintro e w' ⟨rfl, rfl⟩
 refine ⟨_, S, rfl, Ext.refl _ _ _, hS, fun _ => ?_, fun h => by cases h⟩
 rw [cntB_eq]
 exact .d _ _ (.i _ _)
end
end Go.Sim
end
section
namespace Go.Proofs
open Go.Shelf Go.RowKit Go.Sort Go.Lib
variable {P : Program} {ρ : Ren}
set_option maxHeartbeats 6400000 in
set_option maxRecDepth 100000 in
theorem aui_small (L : LaysM.n288 P ρ) (u : Nat) (hu : u < 100) (sv ur : Value) (w W1 : World)
  (hap : ∀ ty, (Builtin.append_ #[ρ.t 37, ρ.t 9] ty #[sv, .string ⟨(Lib.decDigits u).toArray⟩]).run P w = .ok ur W1) :
  Calls P (ρ.f 288) #[sv, .int .u64 u, .int .i64 10] w fun e w' => e = .returned ur ∧ w' = W1 := by
 have mixed := L.mixed
 have t5 := L.t5; have a5 := L.a5; have z5 := L.z5; have v5 := L.v5
 have t37 := L.t37; have u37 := run_underlying L.t37; have a37 := L.a37; have z37 := L.z37; have v37 := L.v37
 have t53 := L.t53; have a53 := L.a53; have z53 := L.z53; have v53 := L.v53
 have t3 := L.t3; have a3 := L.a3; have z3 := L.z3; have v3 := L.v3
 have t4 := L.t4; have a4 := L.a4; have z4 := L.z4; have v4 := L.v4
 have t9 := L.t9; have a9 := L.a9; have z9 := L.z9; have v9 := L.v9
 have t171 := L.t171; have a171 := L.a171; have z171 := L.z171; have v171 := L.v171
 have t0 := L.t0; have a0 := L.a0; have z0 := L.z0; have v0 := L.v0
 have t173 := L.t173; have a173 := L.a173; have z173 := L.z173; have v173 := L.v173
 have e283 : ∀ args w, (callFunc (ρ.f 283) args).run P w = .ok (.enter (ρ.f 283) args) w := enters_of L.f283 (by kernel_rfl) rfl
 go_enter L.f288, Body.n288_ntmps ρ
 go_wp2_with (first
  | (go_at_fn (ρ.f 283); refine (Any.internal_strconv_small { L with } u hu _).mono ?_; rintro e w' ⟨rfl, rfl⟩)
  | (at_builtin; refine Lib.wpList_append_run _ rfl _ _ _ _ rfl _ _ rfl rfl _ _ (hap _) ?_))
 go_ret
 exact ⟨rfl, rfl⟩
set_option maxHeartbeats 12800000 in
set_option maxRecDepth 100000 in
theorem aui_big (L : LaysM.n288 P ρ) (u : Nat) (hu : 100 ≤ u) (hu64 : u < 18446744073709551616) (sv : Value) (w : World) (htab : Lib.TabIs P w "internal/strconv.uint64pow10" .u64 Lib.pow10Tab) {Q : Value → World → Prop}
  (hap : ∀ W2 k os, W2 = grow (w.drewN k) os → (∀ j u', (Lib.byteCells (Lib.decDigits u))[j]? = some u' → W2.cell? ((⟨w.heap.size, 0, none⟩ : Addr).add j) = some u') →
   ∃ ur W3, (∀ ty, (Builtin.append_ #[ρ.t 37, ρ.t 37] ty #[sv, .slice (some ⟨w.heap.size, 0, none⟩) (Lib.nDigits u) 24]).run P W2 = .ok ur W3) ∧ Q ur W3) :
  Calls P (ρ.f 288) #[sv, .int .u64 u, .int .i64 10] w fun e w' => ∃ v', e = .returned v' ∧ Q v' w' := by
 have mixed := L.mixed
 have t5 := L.t5; have a5 := L.a5; have z5 := L.z5; have v5 := L.v5
 have t37 := L.t37; have u37 := run_underlying L.t37; have a37 := L.a37; have z37 := L.z37; have v37 := L.v37
 have t53 := L.t53; have a53 := L.a53; have z53 := L.z53; have v53 := L.v53
 have t3 := L.t3; have a3 := L.a3; have z3 := L.z3; have v3 := L.v3
 have t4 := L.t4; have a4 := L.a4; have z4 := L.z4; have v4 := L.v4
 have t9 := L.t9; have a9 := L.a9; have z9 := L.z9; have v9 := L.v9
 have t171 := L.t171; have a171 := L.a171; have z171 := L.z171; have v171 := L.v171
 have t0 := L.t0; have a0 := L.a0; have z0 := L.z0; have v0 := L.v0
 have t173 := L.t173; have a173 := L.a173; have z173 := L.z173; have v173 := L.v173
 have e284 : ∀ args w, (callFunc (ρ.f 284) args).run P w = .ok (.enter (ρ.f 284) args) w := enters_of L.f284 (by kernel_rfl) rfl
 have e285 : ∀ args w, (callFunc (ρ.f 285) args).run P w = .ok (.enter (ρ.f 285) args) w := enters_of L.f285 (by kernel_rfl) rfl
 have hu1 : 1 ≤ u := by omega
 have hnd20 : Lib.nDigits u ≤ 20 := by have := Lib.numDigits_eq u hu1 hu64; split at this <;> omega
 have hal : P.arrayLen (ρ.t 171) = 24 := by simp [Program.arrayLen, L.t171]
 have hsl : ∀ W, (Instr.sliceAt (ρ.t 171) (.pointer (some ⟨w.heap.size, 0, none⟩)) none (some (.int .i64 (Lib.nDigits u : Int))) none).run P W = .ok (.slice (some ⟨w.heap.size, 0, none⟩) (Lib.nDigits u) 24) W := fun W => by
  rw [run_sliceAt_array_h W (ρ.t 171) ⟨w.heap.size, 0, none⟩ (by simp [Program.arrayLen, Program.elem, L.t171]) .i64 (Lib.nDigits u : Int) (by omega) (by rw [hal]; omega)]
  go_simp
 have hH0 := Lib.holds_zero0 w (ρ.t 171) (Lib.nDigits u) (by omega)
 have hfmt := Any.internal_strconv_formatBase10 { L with } w.heap.size 0 24 u (Array.replicate (Lib.nDigits u) 0) (w.alloc (.cells Lib.zeros24 (ρ.t 171))) hH0 (by rw [Array.size_replicate]; exact Lib.lt_pow_nDigits u) hu64 (by rw [Array.size_replicate]; omega)
 rw [Array.size_replicate] at hfmt
 have HH0 := Lib.hid hH0
 have HAP := Lib.hid hap
 have iu : (100 : Int) ≤ (u : Int) := by omega
 clear hH0 hal hap
 go_enter L.f288, Body.n288_ntmps ρ
 go_wp2_with (first
  | (go_at_fn (ρ.f 284); refine (Any.internal_strconv_numDigits { L with } u hu1 hu64 _ (Lib.tabIs_alloc htab _)).mono ?_; rintro e w' ⟨rfl, rfl⟩))
 go_at_fn (ρ.f 285)
 refine hfmt.mono ?_
 rintro e w' ⟨rfl, k, v', dk, rfl, hF⟩
 have hcells : ∀ j u', (Lib.byteCells (Lib.decDigits u))[j]? = some u' → ((putRow (fun (b : UInt8) => Value.int .u8 (b.toNat : Int)) (w.alloc (.cells Lib.zeros24 (ρ.t 171))) w.heap.size 0 dk).drewN k).cell? ((⟨w.heap.size, 0, none⟩ : Addr).add j) = some u' := by
  intro j u' hj
  have hjl : j < (Lib.decDigits u).length := by
   have h5 := (List.getElem?_eq_some_iff.1 hj).1
   rwa [Lib.byteCells_length] at h5
  have e5 : (Lib.byteCells (Lib.decDigits u))[j]? = some (Value.int .u8 ((Lib.decDigits u)[j].toNat : Int)) := by simp [Lib.byteCells, hjl]
  rw [e5] at hj
  cases hj
  rw [Lib.row_is_numeral hF j hjl, Lib.add_plain, World.cell?_drewN]
  exact cell?_putRow (fun (b : UInt8) => Value.int .u8 (b.toNat : Int)) _ w.heap.size 0 _ dk HH0.out (by rw [hF.size, Array.size_replicate]) j (by rw [hF.size]; rw [Lib.decDigits_length] at hjl; exact hjl)
 obtain ⟨os, eo⟩ := Lib.fin_at w (.cells Lib.zeros24 (ρ.t 171)) dk k 0
 obtain ⟨ur, W3, hap, hq⟩ := HAP.out _ k os eo hcells
 generalize (putRow (fun (b : UInt8) => Value.int .u8 (b.toNat : Int)) (w.alloc (.cells Lib.zeros24 (ρ.t 171))) w.heap.size 0 dk).drewN k = W2 at hap ⊢
 clear eo HH0 hfmt HAP hcells
 go_wp2_with (at_builtin; refine Lib.wpList_append_run _ rfl _ _ _ _ rfl _ _ rfl rfl _ _ (hap _) ?_)
 go_ret
 exact ⟨ur, rfl, hq⟩
set_option maxHeartbeats 6400000 in
set_option maxRecDepth 100000 in
theorem ai_inner (L : LaysM.n249 P ρ) (u : Nat) (hu : u < 9223372036854775808) (sv : Value) (w : World) {Q : Value → World → Prop}
  (h : Calls P (ρ.f 288) #[sv, .int .u64 u, .int .i64 10] w fun e w' => ∃ v', e = .returned v' ∧ Q v' w') :
  Calls P (ρ.f 249) #[sv, .int .i64 u, .int .i64 10] w fun e w' => ∃ v', e = .returned v' ∧ Q v' w' := by
 have mixed := L.mixed
 have t5 := L.t5; have a5 := L.a5; have z5 := L.z5; have v5 := L.v5
 have t37 := L.t37; have u37 := run_underlying L.t37; have a37 := L.a37; have z37 := L.z37; have v37 := L.v37
 have t2 := L.t2; have a2 := L.a2; have z2 := L.z2; have v2 := L.v2
 have t3 := L.t3; have a3 := L.a3; have z3 := L.z3; have v3 := L.v3
 have t53 := L.t53; have a53 := L.a53; have z53 := L.z53; have v53 := L.v53
 have t4 := L.t4; have a4 := L.a4; have z4 := L.z4; have v4 := L.v4
 have e288 : ∀ args w, (callFunc (ρ.f 288) args).run P w = .ok (.enter (ρ.f 288) args) w := enters_of L.f288 (by kernel_rfl) rfl
 have hu64 : u < 18446744073709551616 := by omega
 go_enter L.f249, Body.n249_ntmps ρ
 go_wp2_with (go_at_fn (ρ.f 288); refine h.mono ?_; rintro e w2 ⟨v2, rfl, hq⟩)
 first | go_ret | go_ret2
 exact ⟨v2, rfl, hq⟩
set_option maxRecDepth 100000 in
theorem ai_outer (L : LaysM.n176 P ρ) (i : Int) (sv : Value) (w : World) {Q : Value → World → Prop}
  (h : Calls P (ρ.f 249) #[sv, .int .i64 i, .int .i64 10] w fun e w' => ∃ v', e = .returned v' ∧ Q v' w') :
  Calls P (ρ.f 176) #[sv, .int .i64 i, .int .i64 10] w fun e w' => ∃ v', e = .returned v' ∧ Q v' w' := by
 have mixed := L.mixed
 have t5 := L.t5; have a5 := L.a5; have z5 := L.z5; have v5 := L.v5
 have t37 := L.t37; have u37 := run_underlying L.t37; have a37 := L.a37; have z37 := L.z37; have v37 := L.v37
 have t2 := L.t2; have a2 := L.a2; have z2 := L.z2; have v2 := L.v2
 have t3 := L.t3; have a3 := L.a3; have z3 := L.z3; have v3 := L.v3
 have e249 : ∀ args w, (callFunc (ρ.f 249) args).run P w = .ok (.enter (ρ.f 249) args) w := enters_of L.f249 (by kernel_rfl) rfl
 go_enter L.f176, Body.n176_ntmps ρ
 go_wp2_with (go_at_fn (ρ.f 249); refine h.mono ?_; rintro e w2 ⟨v2, rfl, hq⟩)
 go_wp2
 go_ret
 exact ⟨v2, rfl, hq⟩
end Go.Proofs
open Go.RowKit Go.Sort
namespace Go.Sim
def aiX (args : List PV) (H : Heap) : Option (PV × Heap) := match args with
 | [x, .d (.i .i64 n), .d (.i .i64 b)] => if b = 10 ∧ 0 ≤ n ∧ n ≤ 9223372036854775807 then appA (H ++ List.replicate 1 none) H.length none 1 x (.d (.s (itoaB n))) else none
 | _ => none
section
variable {P : Program} {N : Names} {C : Cx} {w : World} {S : Stab} {β : Pl} {B : Nat} {H : Heap} {a : Act} {E : Env} {ρ : Go.Shelf.Ren}
theorem appA_bytes {H : Heap} {id b : Nat} {x : PV} {l : List UInt8} {t : Bool} : appA H id none b x (.d (.l none (bytesOf l) t)) = appA H id none b x (.d (.s l)) := by
 have h1 : elemsA H none (.d (.l none (bytesOf l) t)) = some (bytesOf l) := by simp [elemsA, K.eq]
 have h2 : elemsA H none (.d (.s l)) = some (bytesOf l) := by simp [elemsA, K.eq]
 unfold appA
 rw [h1, h2]
theorem grow_heap_old {w : World} {os : Array Go.Obj} {b : Nat} (h : b < w.heap.size) : (grow w os).heap[b]? = w.heap[b]? := Array.getElem?_append_left h
theorem ai_callR {G : Nat → Option (DV × K)} {f : Nat} (L : Go.Proofs.LaysM.n176 P ρ) (hf : C.μ f = ρ.f 176) (hg : G (N.g (ρ.g 17)) = some (.a (Lib.pow10Tab.map fun z => .i .u64 z), some 20))
  (hk : kq P (ρ.t 5) = some none) (hz : zq P (ρ.t 5) = some (.i .u8 0)) (hb : P.bytesOf (ρ.t 5) = 1) {args : List PV} {H H' : Heap} {r : PV} (h : aiX args H = some (r, H')) :
  CallR P C N G f args H r H' := by
 unfold aiX at h
 split at h
 case h_2 => cases h
 rename_i x n b10
 split at h
 case isFalse => cases h
 rename_i hn
 obtain ⟨rfl, hn0, hn1⟩ := hn
 obtain ⟨u, rfl⟩ := Int.eq_ofNat_of_zero_le hn0
 intro B w S β us hB hS hG hH hl hr
 match us, hl with
 | [ux, v1, v2], _ =>
 have k0 := hr 0 (by simp) (by simp)
 have k1 := hr 1 (by simp) (by simp)
 have k2 := hr 2 (by simp) (by simp)
 simp only [List.getElem_cons_zero, List.getElem_cons_succ] at k0 k1 k2
 have e1 : v1 = .int .i64 u := by cases k1 with | d _ _ h => cases h; rfl
 have e2 : v2 = .int .i64 10 := by cases k2 with | d _ _ h => cases h; rfl
 subst e1 e2
 have htab : Lib.TabIs P w "internal/strconv.uint64pow10" .u64 Lib.pow10Tab := tab_of_gok hG L.m17 (by rw [Lib.pow10Tab_length]; exact hg)
 have hp : β H.length = .pend := hH.out _ (Nat.le_refl _)
 have hgr := hok_grow hH 1
 have hlt : H.length < (H ++ List.replicate 1 none).length := by simp
 have hit : itoaB (u : Int) = Lib.decDigits u := by
  rw [itoaB_eq (by omega) hn1, Lib.itoa_nonneg]
 rw [hit] at h
 have ht : P.underlying (ρ.t 37) = some (.slice (ρ.t 5)) := L.t37
 rw [hf]
 have fin : ∀ v' w', (∃ S1, Ext B w S w' S1 ∧ Swf w' S1 ∧ ∃ β', HOK C B w' S1 β' H' ∧ Later β β' ∧ RelV C w' S1 β' r v' ∧ H.length ≤ H'.length ∧ Kp H.length H.length β β') → ∃ v S' β', Ending.returned v' = .returned v ∧ Ext B w S w' S' ∧ Swf w' S' ∧ HOK C B w' S' β' H' ∧ Later β β' ∧ RelV C w' S' β' r v ∧ H.length ≤ H'.length ∧ Kp H.length H.length β β' := by
  rintro v' w' ⟨S1, h1, h2, β', h3, h4, h5, h6, h7⟩
  exact ⟨v', S1, β', rfl, h1, h2, h3, h4, h5, h6, h7⟩
 refine (Go.Proofs.ai_outer L (u : Int) ux w (Q := fun v' w' => ∃ S1, Ext B w S w' S1 ∧ Swf w' S1 ∧ ∃ β', HOK C B w' S1 β' H' ∧ Later β β' ∧ RelV C w' S1 β' r v' ∧ H.length ≤ H'.length ∧ Kp H.length H.length β β') (Go.Proofs.ai_inner { L with } u (by omega) ux w ?_)).mono (by rintro e w' ⟨v', rfl, h⟩; exact fin v' w' h)
 by_cases hu : u < 100
 ·have hy : RelV C w S β (.d (.s (Lib.decDigits u))) (.string ⟨(Lib.decDigits u).toArray⟩) := .d _ _ (.s _ _ (by simp))
  obtain ⟨ur, w', c1, c2⟩ := appA_sound (P := P) (ts := #[ρ.t 37, ρ.t 9]) (id := H.length) hgr hS hB hp hlt rfl rfl ht hk (.inr L.t9) hz (by rw [hb]; omega) (ρ.t 37) (x := x) (y := .d (.s (Lib.decDigits u))) k0 hy (v := r) (H' := H') (by rw [hb]; exact h)
  refine (Go.Proofs.aui_small { L with } u hu ux ur w w' (fun ty => c1)).mono ?_
  rintro e w2 ⟨rfl, rfl⟩
  obtain ⟨S', β', g1, g2, g3, g4, g5, g6, g7⟩ := leaves_grow rfl c2
  exact ⟨ur, rfl, S', g1, g2, β', g3, g4, g5, g6, g7⟩
 ·refine Go.Proofs.aui_big { L with } u (by omega) (by omega) ux w htab ?_
  intro W2 k os hW hc
  have hlen : (Lib.decDigits u).length = Lib.nDigits u := Lib.decDigits_length u
  have hnd20 : Lib.nDigits u ≤ 20 := by have := Lib.numDigits_eq u (by omega) (by omega); split at this <;> omega
  let S2 : Stab := fun b o => S b o ∨ (b = w.heap.size ∧ o < Lib.nDigits u)
  have x0 : Ext B w S W2 S := by
   rw [hW]
   have h1 : Ext B w S (w.drewN k) S := drewN_ext k
   have h2 := grow_ext (B := B) os.toList (w.drewN k) (hS.ext h1) (Nat.le_trans hB h1.below.size)
   simp only [Array.toArray_toList] at h2
   exact h1.trans h2
  have x1 : Ext B w S W2 S2 := by
   refine ⟨x0.below, fun _ _ h => .inl h, x0.cell, ?_, x0.shape⟩
   rintro b o (h | ⟨rfl, _⟩)
   ·exact .inl h
   ·exact .inr hB
  have hcell : ∀ j (hj : j < (Lib.decDigits u).length), W2.cell? ⟨w.heap.size, j, none⟩ = some (.int .u8 ((Lib.decDigits u)[j].toNat : Int)) := by
   intro j hj
   have h1 := hc j (.int .u8 ((Lib.decDigits u)[j].toNat : Int)) (by simp [Lib.byteCells, hj])
   rw [Lib.add_plain, Nat.zero_add] at h1
   exact h1
  have s2 : Swf W2 S2 := by
   rintro b o (h | ⟨rfl, h⟩)
   ·exact hS.ext x0 b o h
   ·exact ⟨_, hcell o (by rw [hlen]; exact h)⟩
  have hblk : ∀ b, b < w.heap.size → W2.heap[b]? = w.heap[b]? := by
   intro b hb'
   rw [hW, grow_heap_old (by exact hb')]; rfl
  have h2 : HOK C B W2 S2 β (H ++ List.replicate 1 none) := hgr.ext x1 (fun _ blk _ _ h => hblk blk (hgr.lt h)) (fun _ blk _ _ h j hj => hj.elim id (fun hj => by have := hgr.lt h; omega)) (fun _ blk _ h => hblk blk (hgr.splt h))
  have hy : RelV C W2 S2 β (.d (.l none (bytesOf (Lib.decDigits u)) false)) (.slice (some ⟨w.heap.size, 0, none⟩) (Lib.nDigits u) 24) := by
   have hbl : (bytesOf (Lib.decDigits u)).length = Lib.nDigits u := by rw [bytesOf, List.length_map, hlen]
   rw [← hbl]
   refine .d _ _ (.l none _ false _ 24 w.heap.size 0 (fun j _ => .int .u8 (((Lib.decDigits u)[j]?.getD 0).toNat : Int)) (by omega) (fun h => by cases h) (fun _ => rfl) ?_ ?_)
   ·intro j hj m hm
    have hm0 : m = 0 := by simpa [K.size] using hm
    subst hm0
    have hj' : j < (Lib.decDigits u).length := by rw [hlen, ← hbl]; exact hj
    refine ⟨?_, .inr ⟨rfl, ?_⟩, rfl⟩
    ·have := hcell j hj'
     simp only [K.size, Nat.mul_one, Nat.add_zero, Nat.zero_add]
     rw [this, List.getElem?_eq_getElem hj']; rfl
    ·simp only [K.size, Nat.mul_one, Nat.add_zero, Nat.zero_add]
     rw [← hlen]; exact hj'
   ·intro j hj
    have hj' : j < (Lib.decDigits u).length := by rw [hlen, ← hbl]; exact hj
    simp only [bytesOf, List.getElem_map, mkV, List.getElem?_eq_getElem hj', Option.getD_some]
    exact .i _ _
  obtain ⟨ur, w', c1, c2⟩ := appA_sound (P := P) (ts := #[ρ.t 37, ρ.t 37]) (id := H.length) h2 s2 (Nat.le_trans hB x0.below.size) hp hlt rfl rfl ht hk (.inl ⟨_, ht⟩) hz (by rw [hb]; omega) (ρ.t 37) (x := x) (k0.ext x1 (Later.refl _)) hy (v := r) (H' := H') (by rw [hb, appA_bytes]; exact h)
  refine ⟨ur, w', fun ty => c1, ?_⟩
  obtain ⟨S', β', g1, g2, g3, g4, g5, g6, g7⟩ := leaves_grow rfl c2
  exact ⟨S', x1.trans g1, g2, β', g3, g4, g5, g6, g7⟩
end
end Go.Sim
end
section
open Go.RowKit
namespace Go.Sim
inductive PT where
 | nil
 | bin (k : Nat) (F : PF) (l r : PT)
noncomputable def PT.get (t : PT) : Nat → Option PF := @PT.rec (fun _ => Nat → Option PF) (fun _ => none) (fun k F _ _ gl gr n => @Bool.rec (fun _ => Option PF) (@Bool.rec (fun _ => Option PF) (gr n) (gl n) (Nat.ble (Nat.succ n) k)) (some F) (Nat.beq n k)) t
def PT.All (p : Nat → PF → Prop) : PT → Prop
 | .nil => True
 | .bin k F l r => p k F ∧ l.All p ∧ r.All p
theorem PT.get_all {p : Nat → PF → Prop} : ∀ {t : PT} {n : Nat} {F : PF}, t.get n = some F → t.All p → p n F
 | .nil, n, F, h, _ => by cases h
 | .bin k G l r, n, F, h, ha => by
  change @Bool.rec (fun _ => Option PF) (@Bool.rec (fun _ => Option PF) (r.get n) (l.get n) (Nat.ble (Nat.succ n) k)) (some G) (Nat.beq n k) = some F at h
  cases hb : Nat.beq n k with
  | true =>
   rw [hb] at h
   have : n = k := Nat.eq_of_beq_eq_true hb
   subst this
   cases h
   exact ha.1
  | false =>
   rw [hb] at h
   change @Bool.rec (fun _ => Option PF) (r.get n) (l.get n) (Nat.ble (Nat.succ n) k) = some F at h
   cases hc : Nat.ble (Nat.succ n) k with
   | true => rw [hc] at h; exact PT.get_all (t := l) h ha.2.1
   | false => rw [hc] at h; exact PT.get_all (t := r) h ha.2.2
inductive XK where
 | clone (k : K) (b : Nat)
 | itoa
 | rep
 | cnt
def XK.run : XK → List DV → Option (PV × Bool)
 | .clone k b, ds => cloneX k b ds
 | .itoa, ds => itoaX ds
 | .rep, ds => repX ds
 | .cnt, ds => cntX ds
inductive RK where
 | ins (k : K) (b : Nat)
 | ai
def RK.run : RK → List PV → Heap → Option (PV × Heap)
 | .ins k b, args, H => insX k b args H
 | .ai, args, H => aiX args H
noncomputable def look {α β : Type} (f : α → β) (z : β) (l : List (Nat × α)) (n : Nat) : β := @List.rec (Nat × α) (fun _ => β) z (fun p _ ih => @Prod.rec Nat α (fun _ => β) (fun m x => @Bool.rec (fun _ => β) ih (f x) (Nat.beq n m)) p) l
theorem look_mem {α β : Type} {f : α → β} {z : β} : ∀ {l : List (Nat × α)} {n : Nat}, look f z l n = z ∨ ∃ x, (n, x) ∈ l ∧ look f z l n = f x
 | [], n => .inl rfl
 | (m, x) :: r, n => by
  change (@Bool.rec (fun _ => β) (look f z r n) (f x) (Nat.beq n m)) = z ∨ ∃ y, (n, y) ∈ (m, x) :: r ∧ (@Bool.rec (fun _ => β) (look f z r n) (f x) (Nat.beq n m)) = f y
  cases hb : Nat.beq n m with
  | true =>
   have : n = m := Nat.eq_of_beq_eq_true hb
   subst this
   exact .inr ⟨x, List.mem_cons_self .., rfl⟩
  | false =>
   rcases look_mem (f := f) (z := z) (l := r) (n := n) with h | ⟨y, h1, h2⟩
   ·exact .inl h
   ·exact .inr ⟨y, List.mem_cons_of_mem _ h1, h2⟩
noncomputable def mkTab (t : PT) (xs : List (Nat × XK)) (rs : List (Nat × RK)) (gs : List (Nat × DV × K)) : Tab where
 F := t.get
 X := look XK.run (fun _ => none) xs
 R := look RK.run (fun _ _ => none) rs
 G := look (fun x => some x) none gs
section
variable {P : Program} {N : Names} {C : Cx}
def XOK (P : Program) (N : Names) (C : Cx) (G : Nat → Option (DV × K)) (f : Nat) : XK → Prop
 | .clone k b => CloneOK P N (C.μ f) k b ∧ ∃ fn, P.funcs[C.μ f]? = some fn ∧ fn.body.isNone = false ∧ fn.name ≠ "runtime.NumGoroutine"
 | .itoa => ∃ ρ, Go.Proofs.LaysM.n171 P ρ ∧ C.μ f = ρ.f 171 ∧ G (N.g (ρ.g 17)) = some (.a (Lib.pow10Tab.map fun z => .i .u64 z), some 20)
 | .rep => ∃ ρ, Go.Proofs.Lays.n105 P ρ ∧ Go.Proofs.Builder.Extra P ρ ∧ C.μ f = ρ.f 105
 | .cnt => ∃ ρ, Go.Proofs.Lays.n138 P ρ ∧ C.μ f = ρ.f 138
def ROK (P : Program) (N : Names) (C : Cx) (G : Nat → Option (DV × K)) (f : Nat) : RK → Prop
 | .ai => ∃ ρ, Go.Proofs.LaysM.n176 P ρ ∧ C.μ f = ρ.f 176 ∧ G (N.g (ρ.g 17)) = some (.a (Lib.pow10Tab.map fun z => .i .u64 z), some 20) ∧ kq P (ρ.t 5) = some none ∧ zq P (ρ.t 5) = some (.i .u8 0) ∧ P.bytesOf (ρ.t 5) = 1
 | .ins k b => ∃ ρ z, Go.Proofs.InsL P (C.μ f) ρ k.size ∧ kq P (ρ.t 9) = some k ∧ zq P (ρ.t 9) = some z ∧ P.bytesOf (ρ.t 9) = b ∧ b ≠ 0 ∧ 0 < k.size
theorem xok_calls {G : Nat → Option (DV × K)} (hN : NOK P N C G) {f : Nat} {x : XK} (h : XOK P N C G f x) {ds : List DV} {r : PV} {own : Bool} (hr : x.run ds = some (r, own)) : CallV P C N G f ds r own := by
 cases x with
 | clone k b => exact clone_calls hN h.1 hr
 | itoa => obtain ⟨ρ, h1, h2, h3⟩ := h; exact itoa_calls h1 h2 h3 hr
 | rep => obtain ⟨ρ, h1, h2, h3⟩ := h; exact rep_calls h1 h2 h3 hr
 | cnt => obtain ⟨ρ, h1, h2⟩ := h; exact cnt_calls h1 h2 hr
theorem xok_fn {G : Nat → Option (DV × K)} {f : Nat} {x : XK} (h : XOK P N C G f x) : ∃ fn, P.funcs[C.μ f]? = some fn ∧ fn.body.isNone = false ∧ fn.name ≠ "runtime.NumGoroutine" := by
 cases x with
 | clone k b => exact h.2
 | itoa => obtain ⟨ρ, h1, h2, -⟩ := h; exact ⟨_, by rw [h2]; exact h1.f171, rfl, of_decide_eq_true rfl⟩
 | rep => obtain ⟨ρ, h1, -, h2⟩ := h; exact ⟨_, by rw [h2]; exact h1.f105, rfl, of_decide_eq_true rfl⟩
 | cnt => obtain ⟨ρ, h1, h2⟩ := h; exact ⟨_, by rw [h2]; exact h1.f138, rfl, of_decide_eq_true rfl⟩
theorem rok_calls {G : Nat → Option (DV × K)} {f : Nat} {x : RK} (h : ROK P N C G f x) {args : List PV} {H H' : Heap} {r : PV} (hr : x.run args H = some (r, H')) : CallR P C N G f args H r H' := by
 cases x with
 | ai => obtain ⟨ρ, h1, h2, h3, h4, h5, h6⟩ := h; exact ai_callR h1 h2 h3 h4 h5 h6 hr
 | ins k b => obtain ⟨ρ, z, h1, h2, h3, h4, h5, h6⟩ := h; subst h4; exact ins_callR h1 rfl h2 h3 h5 h6 hr
theorem rok_fn {G : Nat → Option (DV × K)} {f : Nat} {x : RK} (h : ROK P N C G f x) : ∃ fn, P.funcs[C.μ f]? = some fn ∧ fn.body.isNone = false ∧ fn.name ≠ "runtime.NumGoroutine" := by
 cases x with
 | ai => obtain ⟨ρ, h1, h2, -⟩ := h; exact ⟨_, by rw [h2]; exact h1.f176, rfl, of_decide_eq_true rfl⟩
 | ins k b =>
  obtain ⟨ρ, z, h1, -⟩ := h
  obtain ⟨nm, hn, hf⟩ := h1.bears
  exact ⟨_, hf, rfl, by simpa using hn⟩
theorem tab_ok {t : PT} {xs : List (Nat × XK)} {rs : List (Nat × RK)} {gs : List (Nat × DV × K)} (hN : NOK P N C (mkTab t xs rs gs).G) (hF : t.All fun n F => FnOK P N (C.μ n) F) (hX : ∀ x ∈ xs, XOK P N C (mkTab t xs rs gs).G x.1 x.2) (hR : ∀ x ∈ rs, ROK P N C (mkTab t xs rs gs).G x.1 x.2) : TabOK P N C (mkTab t xs rs gs) := by
 refine ⟨hN, fun f F h => PT.get_all (p := fun n F => FnOK P N (C.μ n) F) (t := t) (n := f) h hF, ?_, ?_, ?_, ?_⟩
 ·intro f ds r own _ h
  change look XK.run (fun _ => none) xs f ds = _ at h
  rcases look_mem (f := XK.run) (z := fun _ => none) (l := xs) (n := f) with h1 | ⟨x, h1, h2⟩
  ·rw [h1] at h; cases h
  ·rw [h2] at h; exact xok_calls hN (hX _ h1) h
 ·intro f args H r H' _ h
  change look RK.run (fun _ _ => none) rs f args H = _ at h
  rcases look_mem (f := RK.run) (z := fun _ _ => none) (l := rs) (n := f) with h1 | ⟨x, h1, h2⟩
  ·rw [h1] at h; cases h
  ·rw [h2] at h; exact rok_calls (hR _ h1) h
 ·intro f args H r _ h
  change look RK.run (fun _ _ => none) rs f args H = _ at h
  rcases look_mem (f := RK.run) (z := fun _ _ => none) (l := rs) (n := f) with h1 | ⟨x, h1, h2⟩
  ·rw [h1] at h; cases h
  ·exact rok_fn (hR _ h1)
 ·intro f ds r _ h
  change look XK.run (fun _ => none) xs f ds = _ at h
  rcases look_mem (f := XK.run) (z := fun _ => none) (l := xs) (n := f) with h1 | ⟨x, h1, h2⟩
  ·rw [h1] at h; cases h
  ·exact xok_fn (hX _ h1)
end
end Go.Sim
end
section
namespace Go.Sim
def LidxG (q : K) : PC :=
 sq (.reg [
 O 9 (.bin .lss (.t 8) (.t 7))] []) (
 sq (.cond (.t 9) (.skip)
 (.exit 0)) (
 sq (.block 1 (
 sq (.reg [
 O 10 (.mov (.t 8)),
 O 5 (.mov (.t 10))] [10]) (
 sq (.reg [
 O 11 (.mov (.t 1)),
 O 12 (.mov (.t 0)),
 O 13 (.mov (.t 5)),
 O 14 (.iaddr q (.t 12) (.t 13)),
 O 15 (.load q (.t 14)),
 O 16 (.callv (.t 11) [(.t 15)])] [15, 14, 13, 12, 11]) (
 .cond (.t 16) (sq (.reg [
 O 17 (.mov (.t 5)),
 O 4 (.mov (.t 17))] [5, 17]) (
 .ret))
 (.skip))))) (
 .reg [
 O 18 (.bin .add (.t 8) (.c (I 1))),
 O 8 (.mov (.t 18))] [18])))
def FidxG (q : K) : PF := ⟨2, [.t 4],
 sq (.reg [
 O 4 (.mov (.c (I 0)))] [4]) (
 sq (sq (.reg [
 O 6 (.mov (.t 0)),
 O 7 (.len false (.t 6)),
 O 8 (.mov (.c (I 0)))] [6]) (
 .block 0 (
 .loop [0, 1, 7, 8] (LidxG q)))) (
 sq (.reg [
 O 4 (.mov (.c (I (-1))))] []) (
 .ret)))⟩
end Go.Sim
end
