/- Part 13 of the proof: CbS4, CbS1, CbS5. -/
import Derived.Test.YtakfofnggifenaaGreatDoorB12
section
open Go.Sim
attribute [local simp ↓] kC_skip kC_ret kC_exit kC_seq kC_block kC_reg kC_cond kC_condc sqK blK lpK kO_nil kO_O kO_E kO_OG kO_EG grd_b grd_t tst_b brn_true brn_false brn_not chk_T b_mov b_pick b_alloc b_box b_load b_store b_bin b_un b_eqv b_faddr b_field b_iaddr b_sl b_len b_app b_call b_call1 b_callR b_ext bo_some bo_none bo2_some bo2_none bo_iaddr bo_addS bo_quo bo_rem bo_bnd bo_bnd0 ld_q0 ld_qw ld_p subP0 subPw bo_moveP bo_moveQ bo_lenl bo_lens bo_lenr bo_add bo_sub bo_mul bo_eql bo_neq bo_lss bo_leq bo_gtr bo_geq bo_neg bo_not bo_eqS bo_neS grd_nb b_slS slSK_s extK_t ownL_l fin_ret fin_norm bo_res0 bo_rest bo_resc st_p stK_box b_callv callvK_f0 callvK_f1 mkf_b subPs ld_qs kC_regS0 kC_regS1 kC_regS2 kC_regS3 kC_regS4 kC_regS5 b_eqb eqbK_b b_agg0 b_bsl0 b_bsl1 app_l app_r appE_n appE_r bo_lenR b_mkif mkifK_d b_tas tasK_i b_mm2 bo_mm2
attribute [local simp] K_refl obj_0 obj_s get_c get_n drop_c drop_n set_c set_n fix_c fix_n rd IOp.adds nadds gh nid rgK rdS ghosts_c ghosts_n packed1 packed2 purT_b purT_i purT_s purT_a purT_lt purT_lf K_ss K_ns K_sn plains_n plains_c env_val env_ref purs_n purs_d put_0 put_s fits_i fits_b fits_s fits_l lt0_nat fits_a purT_t pur_dv frz_n purT_r purT_f
section
namespace Go.Sim
set_option maxRecDepth 10000
set_option maxHeartbeats 8000000
theorem stl_sum (c d t : Int) : w64 (w64 (w64 d + w64 t) - w64 c) = w64 (w64 (w64 (-(w64 c)) + w64 d) + w64 t) := by
 simp only [w64, IntKind.wrap_i64]
 omega
theorem pcl_a (l : List DV) : (PV.d (.a l)).cells = l.map .d := rfl
theorem mkP_10 {R : Type} {a b c d e f g h i j : DV} {q : PV → Option R} : bo (mkP (K1 10) [.d a, .d b, .d c, .d d, .d e, .d f, .d g, .d h, .d i, .d j]) (.h q) = q (.d (.a [a, b, c, d, e, f, g, h, i, j])) := rfl
theorem val1107 (T : Tab) (hU : HU T) (hN : HN T) (hS : HS T) (b : ABooks) (o p : APeriod) (booked : Int) (hb : b.ok) (ho : o.ok) (hp : p.ok) : T.val 1107 [b.dv, o.dv, p.dv, I booked] = some (.t [.d (entN b o p booked).1.dv, .d (.b (entN b o p booked).2)], false) := by
 rw [val_k T (hS 1107 F1107 rfl) rfl]
 have e := val1023 T hU b p.Account p.To hb
 have hz : ∀ a n s, ALeg.dv ⟨a, n, s⟩ = DV.a [I a, I n, .s s] := fun _ _ _ => rfl
 unfold entN
 cases hf : prodA b p.Account p.To with
 | none =>
  rw [hf] at e
  simp only [Option.getD_none, Option.isSome_none] at e
  have e8 := val1018 T hN (stl b o p []) false (by show 4 < 1000000; decide)
  obtain ⟨nl, hnl⟩ : ∃ nl, netL (stl b o p []) = nl := ⟨_, rfl⟩
  rw [hnl] at e8
  simp only [stl, List.map_cons, List.map_nil, ← stl_sum] at e8
  simp only [w64, hz] at e8
  simp [F1107, Fr.ofArgs, e, e8, ↓kC_regD, ↓kDq_nil, ↓kDq_O, ↓aftD_go, nfp_go, ↓d_mov, ↓d_load, ↓d_bin, ↓d_faddr, accD, writeS, touchS, footD, storeD, chg, roOf, runs, pairsD, disj, PV.refs, IOp.okD, Nat.testBit, List.take, List.drop, List.take_succ_cons, List.take_zero, List.map_cons, List.map_nil, List.length_cons, List.cons_append, List.nil_append, b_agg, agg_n, agg_c, cells_i, cells_s, putAt, mkA, size_n, frz, frz1, purs, pur, purC, scal_l, b_bsl, bsl_n, bsl_c, b_agg0, AProduct.zero, AEntry.zero]
  try rfl
 | some v =>
  rw [hf] at e
  simp only [Option.getD_some, Option.isSome_some] at e
  have e8 := val1018 T hN (stl b o p v.Currency) false (by show 4 < 1000000; decide)
  obtain ⟨nl, hnl⟩ : ∃ nl, netL (stl b o p v.Currency) = nl := ⟨_, rfl⟩
  rw [hnl] at e8
  simp only [stl, List.map_cons, List.map_nil, ← stl_sum] at e8
  simp only [w64, hz] at e8
  simp only [hnl]
  simp [F1107, Fr.ofArgs, e, e8, ↓kC_regD, ↓kDq_nil, ↓kDq_O, ↓aftD_go, nfp_go, ↓d_mov, ↓d_load, ↓d_bin, ↓d_faddr, accD, writeS, touchS, footD, storeD, chg, roOf, runs, pairsD, disj, PV.refs, IOp.okD, Nat.testBit, List.take, List.drop, List.take_succ_cons, List.take_zero, List.map_cons, List.map_nil, List.length_cons, List.cons_append, List.nil_append, b_agg, agg_n, agg_c, cells_i, cells_s, putAt, mkA, size_n, frz, frz1, purs, pur, purC, scal_l, b_bsl, bsl_n, bsl_c, AEntry.zero]
  clear hnl
  cases nl with
  | nil => simp [List.map_cons, List.map_nil, List.length_cons, purs, pur, purC, b_agg0]; try rfl
  | cons x nl =>
   have rA : -9223372036854775808 ≤ p.Account ∧ p.Account ≤ 9223372036854775807 := inK64 hp.1
   have rT : -9223372036854775808 ≤ p.To ∧ p.To ≤ 9223372036854775807 := inK64 hp.2.2.1
   have rC : -9223372036854775808 ≤ o.Count ∧ o.Count ≤ 9223372036854775807 := inK64 ho.2.2.2.2.2.2.1
   have i1 := val776 T hS _ rA.1 rA.2
   have i2 := val776 T hS _ rT.1 rT.2
   have i3 := val776 T hS _ rC.1 rC.2
   have i0 := val776 T hS 0 (by decide) (by decide)
   have l0 := itoaB_len (n := 0) (by decide) (by decide)
   have l1 := itoaB_len rA.1 rA.2
   have l2 := itoaB_len rT.1 rT.2
   have l3 := itoaB_len rC.1 rC.2
   have g0 : ((nl.length : Int) + 1 == 0) = false := by simp; omega
   have q1' : o.Count ≠ 0 → (o.Count == 0) = false := fun h => by simpa using h
   have c1 : 4 + (itoaB p.Account).length < 4611686018427387904 := by omega
   have c2 : (itoaB p.Account).length + 1 + 1 + 1 + 1 + 1 < 4611686018427387904 := by omega
   have c3 : (itoaB p.Account).length + 1 + 1 + 1 + 1 + 1 + (itoaB p.To).length < 4611686018427387904 := by omega
   have c4 : (itoaB p.Account).length + ((itoaB p.To).length + 1) + 1 + 1 + 1 + 1 + 1 < 4611686018427387904 := by omega
   have c5 : (itoaB p.Account).length + ((itoaB p.To).length + 1 + 1) + 1 + 1 + 1 + 1 + (itoaB o.Count).length < 4611686018427387904 := by omega
   have c6 : (itoaB p.Account).length + ((itoaB p.To).length + 1 + 1) + 1 + 1 + 1 + 1 + (itoaB 0).length < 4611686018427387904 := by omega
   by_cases q1 : o.Count = 0 <;> by_cases q2 : p.To < 73048
   all_goals
    first | have q1' := q1' q1 | skip
    simp [g0, c1, c2, c3, c4, c5, c6, q1, q1', q2, decide_true, decide_false, i0, i1, i2, i3, ↓kC_regD, ↓kDq_nil, ↓kDq_O, ↓kDq_E, ↓aftD_go, nfp_go, ↓d_load, ↓d_store, ↓d_bin, ↓d_faddr, ↓d_call0, accD, writeS, touchS, footD, storeD, chg, roOf, runs, pairsD, disj, PV.refs, IOp.okD, Nat.testBit, pcl_a, mkP_10, List.take, List.drop, List.take_succ_cons, List.take_zero, List.drop_succ_cons, List.map_cons, List.map_nil, List.length_cons, List.cons_append, List.nil_append, b_agg, agg_n, agg_c, cells_i, cells_s, cells_l, putAt, mkA, size_n, purs, pur, purC]
    simp only [stlE, keyE, ints, intr, q1, q2, if_true, if_false, AEntry.dv, List.append_assoc, List.cons_append, List.nil_append, List.map_cons, w64]
end Go.Sim
end
section
namespace Go.Sim
set_option maxRecDepth 10000
set_option maxHeartbeats 8000000
def gr26t (a b c : List UInt8) : Bool := decide (a.length ≤ 100) && (decide (b.length ≤ 100) && decide (c.length ≤ 100))
theorem val1110 (T : Tab) (hS : HS T) (a b c : List UInt8) : T.val 1110 [.s a, .s b, .s c] = some (.d (.b (gr26t a b c)), false) := by
  rw [val_k T (hS 1110 F1110 rfl) rfl]
  simp [F1110, Fr.ofArgs, gr26t]
  repeat' (refine brn_split (fun h => ?_) (fun h => ?_) <;> (try simp at h) <;> (try simp [h]))
  · have q1 : a.length ≤ 100 := by omega
    have q2 : b.length ≤ 100 := by omega
    simp [q1, q2]
    try omega
  all_goals omega
def gr26fee (f : AFee) : Bool := decide (100 < f.Name.length) || grX f.When || grX f.Amount
def gr26rule (f : ARule) : Bool := decide (100 < f.Name.length) || grX f.Amount
def gr26prod (p : AProduct) : Bool := !gr26t p.Name p.Currency p.Calendar || decide (8 < p.Fees.l.length) || decide (8 < p.Rules.l.length) || decide (20 < p.Credit.Tiers.l.length) || decide (20 < p.Debit.Tiers.l.length) || p.Fees.l.any gr26fee || p.Rules.l.any gr26rule
theorem lp1109_0 (T : Tab) (hT : HU T) (p : AProduct) (hn : p.Fees.l.length ≤ maxLen) (ho : ∀ f ∈ p.Fees.l, f.ok) {k : KC (PV × Bool)} {r : Option (PV × Bool)} {fr : Fr} {H : Heap} (hr : RetT 2 k r) (h0 : gc [1, 3] 0 ⟨fr, H⟩ = ⟨[(3, (.d (I (0 : Int)))), (1, (.p 0 0 0))], [some (.box (K1 19) (.d p.dv))]⟩) :
    kC T.env 0 fr H (.h (.loop [1, 3] L1109_0, k)) = brn (p.Fees.l.any (gr26fee)) (.h (r, k (.exit 0) [(43, .d (.b false)), (3, (.d (I (p.Fees.l.length : Int)))), (1, (.p 0 0 0))] [some (.box (K1 19) (.d p.dv))])) := by
  have hm := mxl
  rw [loop_rounds p.Fees.l (fun i _ => ⟨[(3, (.d (I (i : Int)))), (1, (.p 0 0 0))], [some (.box (K1 19) (.d p.dv))]⟩) (fun _ _ => True) (fun i _ x c => if (gr26fee) x = true then r else c ()) (fun _ => k (.exit 0) [(43, .d (.b false)), (3, (.d (I (p.Fees.l.length : Int)))), (1, (.p 0 0 0))] [some (.box (K1 19) (.d p.dv))]) ?_ ?_ h0 trivial]
  · rw [rounds_any (gr26fee) r]
    · cases p.Fees.l.any (gr26fee) <;> rfl
    · exact fun _ _ _ _ => rfl
  · intro B _ _ _
    simp [L1109_0]
  · intro B _ i _ hi _ c hc
    have h1 : (i : Int) < p.Fees.l.length := by omega
    have h3 := wr1 (i := i) (by omega)
    have o1 := ho _ (List.getElem_mem hi)
    have e0 := val919 T hT p.Fees.l[i].When o1.2.2.1
    have e1 := val919 T hT p.Fees.l[i].Amount o1.2.2.2
    simp [L1109_0, h1, hi]
    repeat' (refine brn_split (fun h => ?_) (fun h => ?_) <;> (try simp at h) <;> (try simp [h, h1, hi, h3, e0, e1]))
    all_goals first
      | (have e : (gr26fee) p.Fees.l[i] = true := by
           simp [gr26fee, grX, *]
           try omega
         rw [if_pos e]; exact hr _ _ (by simp [Fr.get]) (by simp [ghosts, gh]))
      | (have e : ¬ (gr26fee) p.Fees.l[i] = true := by
           simp [gr26fee, grX, *]
           try omega
         rw [if_neg e]; exact hc () _ _ trivial (by simp [gc, Fr.keep, reach, frRefs, heapRefs, PV.refs, place, gcH, orefs, Obj.refs, PV.ren, Obj.ren, Heap.obj, Fr.ren, gh, List.idxOf?_cons]))
theorem lp1109_1 (T : Tab) (hT : HU T) (p : AProduct) (hn : p.Rules.l.length ≤ maxLen) (ho : ∀ f ∈ p.Rules.l, f.ok) {k : KC (PV × Bool)} {r : Option (PV × Bool)} {fr : Fr} {H : Heap} (hr : RetT 2 k r) (h0 : gc [1, 4] 0 ⟨fr, H⟩ = ⟨[(4, (.d (I (0 : Int)))), (1, (.p 0 0 0))], [some (.box (K1 19) (.d p.dv))]⟩) :
    kC T.env 0 fr H (.h (.loop [1, 4] L1109_1, k)) = brn (p.Rules.l.any (gr26rule)) (.h (r, k (.exit 2) [(76, .d (.b false)), (4, (.d (I (p.Rules.l.length : Int)))), (1, (.p 0 0 0))] [some (.box (K1 19) (.d p.dv))])) := by
  have hm := mxl
  rw [loop_rounds p.Rules.l (fun i _ => ⟨[(4, (.d (I (i : Int)))), (1, (.p 0 0 0))], [some (.box (K1 19) (.d p.dv))]⟩) (fun _ _ => True) (fun i _ x c => if (gr26rule) x = true then r else c ()) (fun _ => k (.exit 2) [(76, .d (.b false)), (4, (.d (I (p.Rules.l.length : Int)))), (1, (.p 0 0 0))] [some (.box (K1 19) (.d p.dv))]) ?_ ?_ h0 trivial]
  · rw [rounds_any (gr26rule) r]
    · cases p.Rules.l.any (gr26rule) <;> rfl
    · exact fun _ _ _ _ => rfl
  · intro B _ _ _
    simp [L1109_1]
  · intro B _ i _ hi _ c hc
    have h1 : (i : Int) < p.Rules.l.length := by omega
    have h3 := wr1 (i := i) (by omega)
    have o1 := ho _ (List.getElem_mem hi)
    have e1 := val919 T hT p.Rules.l[i].Amount o1.2.2
    simp [L1109_1, h1, hi]
    repeat' (refine brn_split (fun h => ?_) (fun h => ?_) <;> (try simp at h) <;> (try simp [h, h1, hi, h3, e1]))
    all_goals first
      | (have e : (gr26rule) p.Rules.l[i] = true := by
           simp [gr26rule, grX, *]
           try omega
         rw [if_pos e]; exact hr _ _ (by simp [Fr.get]) (by simp [ghosts, gh]))
      | (have e : ¬ (gr26rule) p.Rules.l[i] = true := by
           simp [gr26rule, grX, *]
           try omega
         rw [if_neg e]; exact hc () _ _ trivial (by simp [gc, Fr.keep, reach, frRefs, heapRefs, PV.refs, place, gcH, orefs, Obj.refs, PV.ren, Obj.ren, Heap.obj, Fr.ren, gh, List.idxOf?_cons]))
theorem val1109 (T : Tab) (hT : HU T) (hS : HS T) (p : AProduct) (hp : p.ok) : T.val 1109 [p.dv] = some (.d (.b (gr26prod p)), false) := by
  rw [val_k T (hS 1109 F1109 rfl) rfl]
  have lp0 := fun k fr H => @lp1109_0 T hT p (hp.2.2.2.2.2.2.2.2.2.1).1 (hp.2.2.2.2.2.2.2.2.2.1).2 k (some (.d (.b true), false)) fr H
  have lp1 := fun k fr H => @lp1109_1 T hT p (hp.2.2.2.2.2.2.2.2.2.2).1 (hp.2.2.2.2.2.2.2.2.2.2).2 k (some (.d (.b true), false)) fr H
  have e := val1110 T hS p.Name p.Currency p.Calendar
  obtain ⟨q0, hq0⟩ : ∃ q, p.Fees.l.any gr26fee = q := ⟨_, rfl⟩
  obtain ⟨q1, hq1⟩ : ∃ q, p.Rules.l.any gr26rule = q := ⟨_, rfl⟩
  obtain ⟨q2, hq2⟩ : ∃ q, gr26t p.Name p.Currency p.Calendar = q := ⟨_, rfl⟩
  simp only [hq0] at lp0
  simp only [hq1] at lp1
  rw [hq2] at e
  have hs : gr26prod p = (!q2 || decide (8 < p.Fees.l.length) || decide (8 < p.Rules.l.length) || decide (20 < p.Credit.Tiers.l.length) || decide (20 < p.Debit.Tiers.l.length) || q0 || q1) := by rw [gr26prod, hq0, hq1, hq2]
  clear hq0 hq1 hq2
  simp [F1109, Fr.ofArgs, e]
  repeat' first
    | (refine brn_split (fun h => ?_) (fun h => ?_) <;> (try simp at h) <;> (try simp [h]))
    | refine (lp0 _ _ _ (by simp [RetT_bl, RetT_sq, RetT_fin]) (by simp [gc, Fr.keep, reach, frRefs, heapRefs, PV.refs, place, gcH, orefs, Obj.refs, PV.ren, Obj.ren, Heap.obj, Fr.ren, gh, List.idxOf?_cons])).trans ?_
    | refine (lp1 _ _ _ (by simp [RetT_bl, RetT_sq, RetT_fin]) (by simp [gc, Fr.keep, reach, frRefs, heapRefs, PV.refs, place, gcH, orefs, Obj.refs, PV.ren, Obj.ren, Heap.obj, Fr.ren, gh, List.idxOf?_cons])).trans ?_
  all_goals simp_all
  all_goals omega
def gr20 (l : List AEntry) : Bool := (l.take 61).any grEnt || decide (60 < l.length)
theorem lp1108_0 (T : Tab) (hT : HU T) (l : List AEntry) (t : Bool) (hn : l.length ≤ maxLen) (ho : ∀ e ∈ l, e.ok) {k : KC (PV × Bool)} {r : Option (PV × Bool)} {fr : Fr} {H : Heap} (hr : RetT 4 k r)
    (h0 : gc [0, 1, 5] 0 ⟨fr, H⟩ = ⟨[(5, .d (I 0)), (1, .d (I 60)), (0, .d (.l (K1 10) (l.map AEntry.dv) t))], []⟩) (he : ∀ b n, k (.exit 0) [(14, .d (.b b)), (5, .d (I n)), (1, .d (I 60)), (0, .d (.l (K1 10) (l.map AEntry.dv) t))] [] = some (.d (.b (decide (60 < l.length))), false)) :
    kC T.env 0 fr H (.h (.loop [0, 1, 5] L1108_0, k)) = brn ((l.take 61).any grEnt) (.h (r, some (.d (.b (decide (60 < l.length))), false))) := by
  have hm := mxl
  rw [loop_rounds (l.take 61) (fun i _ => ⟨[(5, .d (I i)), (1, .d (I 60)), (0, .d (.l (K1 10) (l.map AEntry.dv) t))], []⟩) (fun _ _ => True) (fun i _ x c => if grEnt x = true then r else c ()) (fun _ => some (.d (.b (decide (60 < l.length))), false)) ?_ ?_ h0 trivial]
  · rw [rounds_any grEnt r]
    · cases (l.take 61).any grEnt <;> rfl
    · exact fun _ _ _ _ => rfl
  · intro B _ _ _
    by_cases hl : l.length ≤ 61
    · have e : (l.take 61).length = l.length := by simp; omega
      simp only [e]
      simp [L1108_0, he]
    · have e : (l.take 61).length = 61 := by simp; omega
      have g1 : (61 : Int) < l.length := by omega
      simp only [e]
      simp [L1108_0, he, g1]
  · intro B _ i _ hi _ c hc
    have hi' : i < l.length := by simp at hi; omega
    have hi2 : i < 61 := by simp at hi; omega
    have h1 : (i : Int) < l.length := by omega
    have h2 : (i : Int) ≤ 60 := by omega
    have h3 := wr1 (i := i) (by omega)
    have hx : (l.take 61)[i] = l[i] := List.getElem_take
    rw [hx]
    have e1 := val1096 T hT l[i] (ho _ (List.getElem_mem hi'))
    obtain ⟨q, hq⟩ : ∃ q, grEnt l[i] = q := ⟨_, rfl⟩
    rw [hq] at e1 ⊢
    cases q with
    | true =>
      simp [L1108_0, h1, h2, hi', e1]
      exact hr _ _ (by simp [Fr.get]) (by simp [ghosts, gh])
    | false =>
      simp [L1108_0, h1, h2, hi', h3, e1]
      exact hc () _ _ trivial (by simp [gc, Fr.keep, reach, frRefs, heapRefs, PV.refs, gcH, PV.ren, Obj.ren, Heap.obj, Fr.ren, gh])
theorem val1108 (T : Tab) (hT : HU T) (hS : HS T) (l : List AEntry) (t : Bool) (hn : l.length ≤ maxLen) (ho : ∀ e ∈ l, e.ok) : T.val 1108 [.l (K1 10) (l.map AEntry.dv) t, I 60] = some (.d (.b (gr20 l)), false) := by
  rw [val_k T (hS 1108 F1108 rfl) rfl]
  simp [F1108, Fr.ofArgs]
  refine (lp1108_0 T hT l t hn ho (r := some (.d (.b true), false)) (by simp [RetT_bl, RetT_sq, RetT_fin]) (by simp [gc, Fr.keep, reach, frRefs, heapRefs, PV.refs, gcH, PV.ren, Obj.ren, Heap.obj, Fr.ren, gh]) (fun b n => ?_)).trans ?_
  · simp
    omega
  · unfold gr20
    cases (l.take 61).any grEnt <;> rfl
def gr26cu (c : ACurrency) : Bool := decide (100 < c.Code.length)
def gr26cal (c : ACalendar) : Bool := decide (100 < c.Name.length) || decide (20 < c.Weekend.l.length) || decide (500 < c.Holidays.l.length)
def gr26acc (a : AAccount) : Bool := !gr26t a.Owner a.Product a.Number
def gr26gl (g : AGl) : Bool := decide (100 < g.Name.length)
def gr26hold (h : AHold) : Bool := decide (100 < h.Key.length)
def gr26blk (h : ABlock) : Bool := decide (100 < h.Source.length)
def great26 (b : ABooks) : Bool := decide (20 < b.Currencies.l.length) || decide (20 < b.Calendars.l.length) || decide (20 < b.Products.l.length) || decide (20 < b.Accounts.l.length) || decide (60 < b.Chart.l.length) || decide (100 < b.Holds.l.length) || decide (100 < b.Blocks.l.length) || gr20 b.Journal.l || b.Currencies.l.any gr26cu || b.Calendars.l.any gr26cal || b.Products.l.any gr26prod || b.Accounts.l.any gr26acc || b.Chart.l.any gr26gl || b.Holds.l.any gr26hold || b.Blocks.l.any gr26blk
theorem lp1105_0 (T : Tab) (b : ABooks) (hn : b.Currencies.l.length ≤ maxLen) {k : KC (PV × Bool)} {r : Option (PV × Bool)} {fr : Fr} {H : Heap} (hr : RetT 2 k r) (h0 : gc [1, 3] 0 ⟨fr, H⟩ = ⟨[(3, (.d (I (0 : Int)))), (1, (.p 0 0 0))], [some (.box (K1 22) (.d b.dv))]⟩) :
    kC T.env 0 fr H (.h (.loop [1, 3] L1105_0, k)) = brn (b.Currencies.l.any (gr26cu)) (.h (r, k (.exit 0) [(59, .d (.b false)), (3, (.d (I (b.Currencies.l.length : Int)))), (1, (.p 0 0 0))] [some (.box (K1 22) (.d b.dv))])) := by
  have hm := mxl
  rw [loop_rounds b.Currencies.l (fun i _ => ⟨[(3, (.d (I (i : Int)))), (1, (.p 0 0 0))], [some (.box (K1 22) (.d b.dv))]⟩) (fun _ _ => True) (fun i _ x c => if (gr26cu) x = true then r else c ()) (fun _ => k (.exit 0) [(59, .d (.b false)), (3, (.d (I (b.Currencies.l.length : Int)))), (1, (.p 0 0 0))] [some (.box (K1 22) (.d b.dv))]) ?_ ?_ h0 trivial]
  · rw [rounds_any (gr26cu) r]
    · cases b.Currencies.l.any (gr26cu) <;> rfl
    · exact fun _ _ _ _ => rfl
  · intro B _ _ _
    simp [L1105_0]
  · intro B _ i _ hi _ c hc
    have h1 : (i : Int) < b.Currencies.l.length := by omega
    have h3 := wr1 (i := i) (by omega)
    simp [L1105_0, h1, hi]
    repeat' (refine brn_split (fun h => ?_) (fun h => ?_) <;> (try simp at h) <;> (try simp [h3]))
    all_goals first
      | (have e : (gr26cu) b.Currencies.l[i] = true := by
           simp [gr26cu, *]
           try omega
         rw [if_pos e]; exact hr _ _ (by simp [Fr.get]) (by simp [ghosts, gh]))
      | (have e : ¬ (gr26cu) b.Currencies.l[i] = true := by
           simp [gr26cu, *]
           try omega
         rw [if_neg e]; exact hc () _ _ trivial (by simp [gc, Fr.keep, reach, frRefs, heapRefs, PV.refs, place, gcH, orefs, Obj.refs, PV.ren, Obj.ren, Heap.obj, Fr.ren, gh, List.idxOf?_cons]))
theorem lp1105_1 (T : Tab) (b : ABooks) (hn : b.Calendars.l.length ≤ maxLen) {k : KC (PV × Bool)} {r : Option (PV × Bool)} {fr : Fr} {H : Heap} (hr : RetT 2 k r) (h0 : gc [1, 4] 0 ⟨fr, H⟩ = ⟨[(4, (.d (I (0 : Int)))), (1, (.p 0 0 0))], [some (.box (K1 22) (.d b.dv))]⟩) :
    kC T.env 0 fr H (.h (.loop [1, 4] L1105_1, k)) = brn (b.Calendars.l.any (gr26cal)) (.h (r, k (.exit 2) [(74, .d (.b false)), (4, (.d (I (b.Calendars.l.length : Int)))), (1, (.p 0 0 0))] [some (.box (K1 22) (.d b.dv))])) := by
  have hm := mxl
  rw [loop_rounds b.Calendars.l (fun i _ => ⟨[(4, (.d (I (i : Int)))), (1, (.p 0 0 0))], [some (.box (K1 22) (.d b.dv))]⟩) (fun _ _ => True) (fun i _ x c => if (gr26cal) x = true then r else c ()) (fun _ => k (.exit 2) [(74, .d (.b false)), (4, (.d (I (b.Calendars.l.length : Int)))), (1, (.p 0 0 0))] [some (.box (K1 22) (.d b.dv))]) ?_ ?_ h0 trivial]
  · rw [rounds_any (gr26cal) r]
    · cases b.Calendars.l.any (gr26cal) <;> rfl
    · exact fun _ _ _ _ => rfl
  · intro B _ _ _
    simp [L1105_1]
  · intro B _ i _ hi _ c hc
    have h1 : (i : Int) < b.Calendars.l.length := by omega
    have h3 := wr1 (i := i) (by omega)
    simp [L1105_1, h1, hi]
    repeat' (refine brn_split (fun h => ?_) (fun h => ?_) <;> (try simp at h) <;> (try simp [h, h1, hi, h3]))
    all_goals first
      | (have e : (gr26cal) b.Calendars.l[i] = true := by
           simp [gr26cal, *]
           try omega
         rw [if_pos e]; exact hr _ _ (by simp [Fr.get]) (by simp [ghosts, gh]))
      | (have e : ¬ (gr26cal) b.Calendars.l[i] = true := by
           simp [gr26cal, *]
           try omega
         rw [if_neg e]; exact hc () _ _ trivial (by simp [gc, Fr.keep, reach, frRefs, heapRefs, PV.refs, place, gcH, orefs, Obj.refs, PV.ren, Obj.ren, Heap.obj, Fr.ren, gh, List.idxOf?_cons]))
theorem lp1105_2 (T : Tab) (hT : HU T) (hS : HS T) (b : ABooks) (ho : ∀ f ∈ b.Products.l, f.ok) (hn : b.Products.l.length ≤ maxLen) {k : KC (PV × Bool)} {r : Option (PV × Bool)} {fr : Fr} {H : Heap} (hr : RetT 2 k r) (h0 : gc [1, 5] 0 ⟨fr, H⟩ = ⟨[(5, (.d (I (0 : Int)))), (1, (.p 0 0 0))], [some (.box (K1 22) (.d b.dv))]⟩) :
    kC T.env 0 fr H (.h (.loop [1, 5] L1105_2, k)) = brn (b.Products.l.any (gr26prod)) (.h (r, k (.exit 4) [(109, .d (.b false)), (5, (.d (I (b.Products.l.length : Int)))), (1, (.p 0 0 0))] [some (.box (K1 22) (.d b.dv))])) := by
  have hm := mxl
  rw [loop_rounds b.Products.l (fun i _ => ⟨[(5, (.d (I (i : Int)))), (1, (.p 0 0 0))], [some (.box (K1 22) (.d b.dv))]⟩) (fun _ _ => True) (fun i _ x c => if (gr26prod) x = true then r else c ()) (fun _ => k (.exit 4) [(109, .d (.b false)), (5, (.d (I (b.Products.l.length : Int)))), (1, (.p 0 0 0))] [some (.box (K1 22) (.d b.dv))]) ?_ ?_ h0 trivial]
  · rw [rounds_any (gr26prod) r]
    · cases b.Products.l.any (gr26prod) <;> rfl
    · exact fun _ _ _ _ => rfl
  · intro B _ _ _
    simp [L1105_2]
  · intro B _ i _ hi _ c hc
    have h1 : (i : Int) < b.Products.l.length := by omega
    have h3 := wr1 (i := i) (by omega)
    have e1 := val1109 T hT hS b.Products.l[i] (ho _ (List.getElem_mem hi))
    obtain ⟨q, hq⟩ : ∃ q, gr26prod b.Products.l[i] = q := ⟨_, rfl⟩
    rw [hq] at e1
    simp [L1105_2, h1, hi, e1]
    repeat' (refine brn_split (fun h => ?_) (fun h => ?_) <;> (try simp at h) <;> (try simp [h3]))
    all_goals first
      | (have e : (gr26prod) b.Products.l[i] = true := by
           simp [*]
           try omega
         rw [if_pos e]; exact hr _ _ (by simp [Fr.get]) (by simp [ghosts, gh]))
      | (have e : ¬ (gr26prod) b.Products.l[i] = true := by
           simp [*]
           try omega
         rw [if_neg e]; exact hc () _ _ trivial (by simp [gc, Fr.keep, reach, frRefs, heapRefs, PV.refs, place, gcH, orefs, Obj.refs, PV.ren, Obj.ren, Heap.obj, Fr.ren, gh, List.idxOf?_cons]))
theorem lp1105_3 (T : Tab) (hS : HS T) (b : ABooks) (hn : b.Accounts.l.length ≤ maxLen) {k : KC (PV × Bool)} {r : Option (PV × Bool)} {fr : Fr} {H : Heap} (hr : RetT 2 k r) (h0 : gc [1, 6] 0 ⟨fr, H⟩ = ⟨[(6, (.d (I (0 : Int)))), (1, (.p 0 0 0))], [some (.box (K1 22) (.d b.dv))]⟩) :
    kC T.env 0 fr H (.h (.loop [1, 6] L1105_3, k)) = brn (b.Accounts.l.any (gr26acc)) (.h (r, k (.exit 6) [(122, .d (.b false)), (6, (.d (I (b.Accounts.l.length : Int)))), (1, (.p 0 0 0))] [some (.box (K1 22) (.d b.dv))])) := by
  have hm := mxl
  rw [loop_rounds b.Accounts.l (fun i _ => ⟨[(6, (.d (I (i : Int)))), (1, (.p 0 0 0))], [some (.box (K1 22) (.d b.dv))]⟩) (fun _ _ => True) (fun i _ x c => if (gr26acc) x = true then r else c ()) (fun _ => k (.exit 6) [(122, .d (.b false)), (6, (.d (I (b.Accounts.l.length : Int)))), (1, (.p 0 0 0))] [some (.box (K1 22) (.d b.dv))]) ?_ ?_ h0 trivial]
  · rw [rounds_any (gr26acc) r]
    · cases b.Accounts.l.any (gr26acc) <;> rfl
    · exact fun _ _ _ _ => rfl
  · intro B _ _ _
    simp [L1105_3]
  · intro B _ i _ hi _ c hc
    have h1 : (i : Int) < b.Accounts.l.length := by omega
    have h3 := wr1 (i := i) (by omega)
    have e1 := val1110 T hS b.Accounts.l[i].Owner b.Accounts.l[i].Product b.Accounts.l[i].Number
    obtain ⟨q, hq⟩ : ∃ q, gr26t b.Accounts.l[i].Owner b.Accounts.l[i].Product b.Accounts.l[i].Number = q := ⟨_, rfl⟩
    rw [hq] at e1
    simp [L1105_3, h1, hi, e1]
    repeat' (refine brn_split (fun h => ?_) (fun h => ?_) <;> (try simp at h) <;> (try simp [h3]))
    all_goals first
      | (have e : (gr26acc) b.Accounts.l[i] = true := by
           simp [gr26acc, *]
           try omega
         rw [if_pos e]; exact hr _ _ (by simp [Fr.get]) (by simp [ghosts, gh]))
      | (have e : ¬ (gr26acc) b.Accounts.l[i] = true := by
           simp [gr26acc, *]
           try omega
         rw [if_neg e]; exact hc () _ _ trivial (by simp [gc, Fr.keep, reach, frRefs, heapRefs, PV.refs, place, gcH, orefs, Obj.refs, PV.ren, Obj.ren, Heap.obj, Fr.ren, gh, List.idxOf?_cons]))
theorem lp1105_4 (T : Tab) (b : ABooks) (hn : b.Chart.l.length ≤ maxLen) {k : KC (PV × Bool)} {r : Option (PV × Bool)} {fr : Fr} {H : Heap} (hr : RetT 2 k r) (h0 : gc [1, 7] 0 ⟨fr, H⟩ = ⟨[(7, (.d (I (0 : Int)))), (1, (.p 0 0 0))], [some (.box (K1 22) (.d b.dv))]⟩) :
    kC T.env 0 fr H (.h (.loop [1, 7] L1105_4, k)) = brn (b.Chart.l.any (gr26gl)) (.h (r, k (.exit 8) [(149, .d (.b false)), (7, (.d (I (b.Chart.l.length : Int)))), (1, (.p 0 0 0))] [some (.box (K1 22) (.d b.dv))])) := by
  have hm := mxl
  rw [loop_rounds b.Chart.l (fun i _ => ⟨[(7, (.d (I (i : Int)))), (1, (.p 0 0 0))], [some (.box (K1 22) (.d b.dv))]⟩) (fun _ _ => True) (fun i _ x c => if (gr26gl) x = true then r else c ()) (fun _ => k (.exit 8) [(149, .d (.b false)), (7, (.d (I (b.Chart.l.length : Int)))), (1, (.p 0 0 0))] [some (.box (K1 22) (.d b.dv))]) ?_ ?_ h0 trivial]
  · rw [rounds_any (gr26gl) r]
    · cases b.Chart.l.any (gr26gl) <;> rfl
    · exact fun _ _ _ _ => rfl
  · intro B _ _ _
    simp [L1105_4]
  · intro B _ i _ hi _ c hc
    have h1 : (i : Int) < b.Chart.l.length := by omega
    have h3 := wr1 (i := i) (by omega)
    simp [L1105_4, h1, hi]
    repeat' (refine brn_split (fun h => ?_) (fun h => ?_) <;> (try simp at h) <;> (try simp [h3]))
    all_goals first
      | (have e : (gr26gl) b.Chart.l[i] = true := by
           simp [gr26gl, *]
           try omega
         rw [if_pos e]; exact hr _ _ (by simp [Fr.get]) (by simp [ghosts, gh]))
      | (have e : ¬ (gr26gl) b.Chart.l[i] = true := by
           simp [gr26gl, *]
           try omega
         rw [if_neg e]; exact hc () _ _ trivial (by simp [gc, Fr.keep, reach, frRefs, heapRefs, PV.refs, place, gcH, orefs, Obj.refs, PV.ren, Obj.ren, Heap.obj, Fr.ren, gh, List.idxOf?_cons]))
theorem lp1105_5 (T : Tab) (b : ABooks) (hn : b.Holds.l.length ≤ maxLen) {k : KC (PV × Bool)} {r : Option (PV × Bool)} {fr : Fr} {H : Heap} (hr : RetT 2 k r) (h0 : gc [1, 8] 0 ⟨fr, H⟩ = ⟨[(8, (.d (I (0 : Int)))), (1, (.p 0 0 0))], [some (.box (K1 22) (.d b.dv))]⟩) :
    kC T.env 0 fr H (.h (.loop [1, 8] L1105_5, k)) = brn (b.Holds.l.any (gr26hold)) (.h (r, k (.exit 10) [(164, .d (.b false)), (8, (.d (I (b.Holds.l.length : Int)))), (1, (.p 0 0 0))] [some (.box (K1 22) (.d b.dv))])) := by
  have hm := mxl
  rw [loop_rounds b.Holds.l (fun i _ => ⟨[(8, (.d (I (i : Int)))), (1, (.p 0 0 0))], [some (.box (K1 22) (.d b.dv))]⟩) (fun _ _ => True) (fun i _ x c => if (gr26hold) x = true then r else c ()) (fun _ => k (.exit 10) [(164, .d (.b false)), (8, (.d (I (b.Holds.l.length : Int)))), (1, (.p 0 0 0))] [some (.box (K1 22) (.d b.dv))]) ?_ ?_ h0 trivial]
  · rw [rounds_any (gr26hold) r]
    · cases b.Holds.l.any (gr26hold) <;> rfl
    · exact fun _ _ _ _ => rfl
  · intro B _ _ _
    simp [L1105_5]
  · intro B _ i _ hi _ c hc
    have h1 : (i : Int) < b.Holds.l.length := by omega
    have h3 := wr1 (i := i) (by omega)
    simp [L1105_5, h1, hi]
    repeat' (refine brn_split (fun h => ?_) (fun h => ?_) <;> (try simp at h) <;> (try simp [h3]))
    all_goals first
      | (have e : (gr26hold) b.Holds.l[i] = true := by
           simp [gr26hold, *]
           try omega
         rw [if_pos e]; exact hr _ _ (by simp [Fr.get]) (by simp [ghosts, gh]))
      | (have e : ¬ (gr26hold) b.Holds.l[i] = true := by
           simp [gr26hold, *]
           try omega
         rw [if_neg e]; exact hc () _ _ trivial (by simp [gc, Fr.keep, reach, frRefs, heapRefs, PV.refs, place, gcH, orefs, Obj.refs, PV.ren, Obj.ren, Heap.obj, Fr.ren, gh, List.idxOf?_cons]))
theorem lp1105_6 (T : Tab) (b : ABooks) (hn : b.Blocks.l.length ≤ maxLen) {k : KC (PV × Bool)} {r : Option (PV × Bool)} {fr : Fr} {H : Heap} (hr : RetT 2 k r) (h0 : gc [1, 9] 0 ⟨fr, H⟩ = ⟨[(9, (.d (I (0 : Int)))), (1, (.p 0 0 0))], [some (.box (K1 22) (.d b.dv))]⟩) :
    kC T.env 0 fr H (.h (.loop [1, 9] L1105_6, k)) = brn (b.Blocks.l.any (gr26blk)) (.h (r, k (.exit 12) [(179, .d (.b false)), (9, (.d (I (b.Blocks.l.length : Int)))), (1, (.p 0 0 0))] [some (.box (K1 22) (.d b.dv))])) := by
  have hm := mxl
  rw [loop_rounds b.Blocks.l (fun i _ => ⟨[(9, (.d (I (i : Int)))), (1, (.p 0 0 0))], [some (.box (K1 22) (.d b.dv))]⟩) (fun _ _ => True) (fun i _ x c => if (gr26blk) x = true then r else c ()) (fun _ => k (.exit 12) [(179, .d (.b false)), (9, (.d (I (b.Blocks.l.length : Int)))), (1, (.p 0 0 0))] [some (.box (K1 22) (.d b.dv))]) ?_ ?_ h0 trivial]
  · rw [rounds_any (gr26blk) r]
    · cases b.Blocks.l.any (gr26blk) <;> rfl
    · exact fun _ _ _ _ => rfl
  · intro B _ _ _
    simp [L1105_6]
  · intro B _ i _ hi _ c hc
    have h1 : (i : Int) < b.Blocks.l.length := by omega
    have h3 := wr1 (i := i) (by omega)
    simp [L1105_6, h1, hi]
    repeat' (refine brn_split (fun h => ?_) (fun h => ?_) <;> (try simp at h) <;> (try simp [h3]))
    all_goals first
      | (have e : (gr26blk) b.Blocks.l[i] = true := by
           simp [gr26blk, *]
           try omega
         rw [if_pos e]; exact hr _ _ (by simp [Fr.get]) (by simp [ghosts, gh]))
      | (have e : ¬ (gr26blk) b.Blocks.l[i] = true := by
           simp [gr26blk, *]
           try omega
         rw [if_neg e]; exact hc () _ _ trivial (by simp [gc, Fr.keep, reach, frRefs, heapRefs, PV.refs, place, gcH, orefs, Obj.refs, PV.ren, Obj.ren, Heap.obj, Fr.ren, gh, List.idxOf?_cons]))
theorem val1105 (T : Tab) (hT : HU T) (hS : HS T) (b : ABooks) (hb : b.ok) : T.val 1105 [b.dv] = some (.d (.b (great26 b)), false) := by
  rw [val_k T (hS 1105 F1105 rfl) rfl]
  have e := val1108 T hT hS b.Journal.l b.Journal.t (hb.2.2.2.2.2.2.1).1 (hb.2.2.2.2.2.2.1).2
  obtain ⟨q, hq⟩ : ∃ q, gr20 b.Journal.l = q := ⟨_, rfl⟩
  rw [hq] at e
  have lp0 := fun k fr H => @lp1105_0 T  b (hb.1).1 k (some (.d (.b true), false)) fr H
  obtain ⟨q0, hq0⟩ : ∃ q, b.Currencies.l.any gr26cu = q := ⟨_, rfl⟩
  simp only [hq0] at lp0
  have lp1 := fun k fr H => @lp1105_1 T  b (hb.2.1).1 k (some (.d (.b true), false)) fr H
  obtain ⟨q1, hq1⟩ : ∃ q, b.Calendars.l.any gr26cal = q := ⟨_, rfl⟩
  simp only [hq1] at lp1
  have lp2 := fun k fr H => @lp1105_2 T hT hS b (hb.2.2.2.2.1).2 (hb.2.2.2.2.1).1 k (some (.d (.b true), false)) fr H
  obtain ⟨q2, hq2⟩ : ∃ q, b.Products.l.any gr26prod = q := ⟨_, rfl⟩
  simp only [hq2] at lp2
  have lp3 := fun k fr H => @lp1105_3 T hS b (hb.2.2.2.2.2.1).1 k (some (.d (.b true), false)) fr H
  obtain ⟨q3, hq3⟩ : ∃ q, b.Accounts.l.any gr26acc = q := ⟨_, rfl⟩
  simp only [hq3] at lp3
  have lp4 := fun k fr H => @lp1105_4 T  b (hb.2.2.1).1 k (some (.d (.b true), false)) fr H
  obtain ⟨q4, hq4⟩ : ∃ q, b.Chart.l.any gr26gl = q := ⟨_, rfl⟩
  simp only [hq4] at lp4
  have lp5 := fun k fr H => @lp1105_5 T  b (hb.2.2.2.2.2.2.2.1).1 k (some (.d (.b true), false)) fr H
  obtain ⟨q5, hq5⟩ : ∃ q, b.Holds.l.any gr26hold = q := ⟨_, rfl⟩
  simp only [hq5] at lp5
  have lp6 := fun k fr H => @lp1105_6 T  b (hb.2.2.2.2.2.2.2.2).1 k (some (.d (.b true), false)) fr H
  obtain ⟨q6, hq6⟩ : ∃ q, b.Blocks.l.any gr26blk = q := ⟨_, rfl⟩
  simp only [hq6] at lp6
  have hs : great26 b = (decide (20 < b.Currencies.l.length) || decide (20 < b.Calendars.l.length) || decide (20 < b.Products.l.length) || decide (20 < b.Accounts.l.length) || decide (60 < b.Chart.l.length) || decide (100 < b.Holds.l.length) || decide (100 < b.Blocks.l.length) || q || q0 || q1 || q2 || q3 || q4 || q5 || q6) := by rw [great26, hq, hq0, hq1, hq2, hq3, hq4, hq5, hq6]
  clear hq hq0 hq1 hq2 hq3 hq4 hq5 hq6
  simp [F1105, Fr.ofArgs]
  repeat' first
    | (refine brn_split (fun h => ?_) (fun h => ?_) <;> (try simp at h) <;> (try simp [h, e]))
    | refine (lp0 _ _ _ (by simp [RetT_bl, RetT_sq, RetT_fin]) (by simp [gc, Fr.keep, reach, frRefs, heapRefs, PV.refs, place, gcH, orefs, Obj.refs, PV.ren, Obj.ren, Heap.obj, Fr.ren, gh, List.idxOf?_cons])).trans ?_
    | refine (lp1 _ _ _ (by simp [RetT_bl, RetT_sq, RetT_fin]) (by simp [gc, Fr.keep, reach, frRefs, heapRefs, PV.refs, place, gcH, orefs, Obj.refs, PV.ren, Obj.ren, Heap.obj, Fr.ren, gh, List.idxOf?_cons])).trans ?_
    | refine (lp2 _ _ _ (by simp [RetT_bl, RetT_sq, RetT_fin]) (by simp [gc, Fr.keep, reach, frRefs, heapRefs, PV.refs, place, gcH, orefs, Obj.refs, PV.ren, Obj.ren, Heap.obj, Fr.ren, gh, List.idxOf?_cons])).trans ?_
    | refine (lp3 _ _ _ (by simp [RetT_bl, RetT_sq, RetT_fin]) (by simp [gc, Fr.keep, reach, frRefs, heapRefs, PV.refs, place, gcH, orefs, Obj.refs, PV.ren, Obj.ren, Heap.obj, Fr.ren, gh, List.idxOf?_cons])).trans ?_
    | refine (lp4 _ _ _ (by simp [RetT_bl, RetT_sq, RetT_fin]) (by simp [gc, Fr.keep, reach, frRefs, heapRefs, PV.refs, place, gcH, orefs, Obj.refs, PV.ren, Obj.ren, Heap.obj, Fr.ren, gh, List.idxOf?_cons])).trans ?_
    | refine (lp5 _ _ _ (by simp [RetT_bl, RetT_sq, RetT_fin]) (by simp [gc, Fr.keep, reach, frRefs, heapRefs, PV.refs, place, gcH, orefs, Obj.refs, PV.ren, Obj.ren, Heap.obj, Fr.ren, gh, List.idxOf?_cons])).trans ?_
    | refine (lp6 _ _ _ (by simp [RetT_bl, RetT_sq, RetT_fin]) (by simp [gc, Fr.keep, reach, frRefs, heapRefs, PV.refs, place, gcH, orefs, Obj.refs, PV.ren, Obj.ren, Heap.obj, Fr.ren, gh, List.idxOf?_cons])).trans ?_
  all_goals simp_all
  all_goals omega
end Go.Sim
end
section
namespace Go.Sim
set_option maxRecDepth 10000
set_option maxHeartbeats 8000000
theorem val9' (T : Tab) (hT : HS T) (x y : AEntry) (hx : x.Legs.l.length ≤ maxLen) : T.val 9 [x.dv, y.dv] = some (.d (.b (AEntry.beq x y)), false) := by
 rw [val_k T (hT 9 F9 rfl) rfl]
 have d0 := val14 T (hT 14 F14 rfl) x.Legs.l y.Legs.l x.Legs.t y.Legs.t hx
 simp [F9, Fr.ofArgs]
 repeat' (refine brn_split (fun h => ?_) (fun h => ?_) <;> (try simp at h) <;> (try simp [h, d0]))
 all_goals simp_all [AEntry.beq, ibq, sbq]
def tot : List ALeg → Int
 | [] => 0
 | x :: l => x.Amount + tot l
def sumW (l : List ALeg) : Int := foldN (fun _ s (x : ALeg) => w64 (s + x.Amount)) 0 0 l
theorem sumW_go : ∀ (l : List ALeg) (i : Nat) (s : Int), foldN (fun _ s (x : ALeg) => w64 (s + x.Amount)) i (w64 s) l = w64 (s + tot l)
 | [], i, s => by simp [foldN, tot]
 | x :: l, i, s => by rw [foldN, w64_add, sumW_go l, tot, Int.add_assoc]
theorem sumW_eq (l : List ALeg) : sumW l = w64 (tot l) := by
 have h0 : w64 0 = 0 := by decide
 have := sumW_go l 0 0
 rw [h0, Int.zero_add] at this
 exact this
theorem tot_ins : ∀ (g : List ALeg) (x : ALeg), w64 (tot (insG g x)) = w64 (tot g + x.Amount)
 | [], x => by simp [insG, tot]
 | y :: g, x => by
  unfold insG
  split
  ·have h := tot_ins g x
   simp only [tot]
   rw [← w64_add', h, w64_add', Int.add_assoc]
  ·split
   ·simp only [tot]; congr 1; omega
   ·simp only [tot, addL]
    rw [w64_add]
    congr 1; omega
theorem tot_fold : ∀ (l g : List ALeg), w64 (tot (l.foldl insG g)) = w64 (tot g + tot l)
 | [], g => by simp [tot]
 | x :: l, g => by
  rw [List.foldl_cons, tot_fold l, ← w64_add, tot_ins, w64_add, tot, Int.add_assoc]
theorem tot_filt : ∀ (g : List ALeg), tot (g.filter fun x => x.Amount != 0) = tot g
 | [] => rfl
 | y :: g => by
  have h := tot_filt g
  by_cases hy : y.Amount = 0
  ·rw [List.filter_cons_of_neg (by simpa using hy), h, tot, hy, Int.zero_add]
  ·rw [List.filter_cons_of_pos (by simpa using hy), tot, tot, h]
theorem sum_net (l : List ALeg) : sumW (netL l) = w64 (tot l) := by
 rw [sumW_eq, netL, tot_filt, tot_fold]; simp [tot]
theorem sum_stl (b : ABooks) (o p : APeriod) (c : List UInt8) : sumW (netL (stl b o p c)) = 0 := by
 rw [sum_net]
 simp only [stl, tot, w64, IntKind.wrap_i64]
 omega
theorem entN_sum (b : ABooks) (o p : APeriod) (n : Int) : sumW (entN b o p n).1.Legs.l = 0 := by
 unfold entN
 cases prodA b p.Account p.To with
 | none => rfl
 | some v =>
  have h := sum_stl b o p v.Currency
  simp only
  generalize netL (stl b o p v.Currency) = g at h ⊢
  cases g with
  | nil => rfl
  | cons x l => exact h
theorem entN_len (b : ABooks) (o p : APeriod) (n : Int) : (entN b o p n).1.Legs.l.length ≤ 4 := by
 unfold entN
 cases prodA b p.Account p.To with
 | none => show 0 ≤ 4; decide
 | some v =>
  have h : (netL (stl b o p v.Currency)).length ≤ 4 := Nat.le_trans (List.length_filter_le _ _) (by have := foldG_len (stl b o p v.Currency) []; simpa [stl] using this)
  simp only
  generalize netL (stl b o p v.Currency) = g at h ⊢
  cases g with
  | nil => show 0 ≤ 4; decide
  | cons x l => exact h
structure ATwo where
 Old : APeriod
 Now : APeriod
def ATwo.cells (x : ATwo) : List DV := x.Old.cells ++ x.Now.cells
def ATwo.dv (x : ATwo) : DV := .a x.cells
def ATwo.ok (x : ATwo) : Prop := x.Old.ok ∧ x.Now.ok
def ATwo.ty : List Ty := APeriod.ty ++ APeriod.ty
theorem hasL_app : ∀ {a b : List Ty} {xs : List DV}, HasL (a ++ b) xs → ∃ u v, xs = u ++ v ∧ HasL a u ∧ HasL b v
 | [], b, xs, h => ⟨[], xs, rfl, trivial, h⟩
 | t :: a, b, xs, h => by
  obtain ⟨x, r, rfl, h1, h2⟩ := hasL_cons h
  obtain ⟨u, v, rfl, h3, h4⟩ := hasL_app h2
  exact ⟨x :: u, v, rfl, ⟨h1, h3⟩, h4⟩
theorem ATwo.of (cs : List DV) (h : HasL ATwo.ty cs) : ∃ x : ATwo, DV.a cs = x.dv ∧ x.ok := by
 obtain ⟨u, v, rfl, h1, h2⟩ := hasL_app (a := APeriod.ty) (b := APeriod.ty) h
 obtain ⟨o, e1, k1⟩ := APeriod.of u h1
 obtain ⟨p, e2, k2⟩ := APeriod.of v h2
 have g1 : u = o.cells := by have := e1; rw [← APeriod.aof] at this; exact DV.a.inj this
 have g2 : v = p.cells := by have := e2; rw [← APeriod.aof] at this; exact DV.a.inj this
 exact ⟨⟨o, p⟩, by rw [g1, g2]; rfl, k1, k2⟩
theorem ATwo.fits (x : ATwo) : Sim.fits (K1 22) (.d (ATwo.dv x)) = true := rfl
theorem ATwo.clen (x : ATwo) : (ATwo.dv x).cells.length = 22 := rfl
theorem ATwo.n0 (x : ATwo) : ((ATwo.dv x).cells.drop 0).take 11 = x.Old.cells := rfl
theorem ATwo.n0' (x : ATwo) : ((ATwo.dv x).cells).take 11 = x.Old.cells := rfl
theorem ATwo.n11 (x : ATwo) : ((ATwo.dv x).cells.drop 11).take 11 = x.Now.cells := rfl
theorem lp1104_0 (T : Tab) (x : AEntry) (hn : x.Legs.l.length ≤ 4) {k : KC (PV × Bool)} {fr : Fr} {H : Heap}
  (h0 : gc [7, 11, 12] 0 ⟨fr, H⟩ = ⟨[(12, .d (I 0)), (11, .d (I 0)), (7, .p 0 0 0)], [some (.box (K1 10) (.d x.dv))]⟩) :
  kC T.env 0 fr H (.h (.loop [7, 11, 12] L1104_0, k)) = k (.exit 0) [(49, .d (.b false)), (12, .d (I x.Legs.l.length)), (11, .d (I (sumW x.Legs.l))), (7, .p 0 0 0)] [some (.box (K1 10) (.d x.dv))] := by
 rw [loop_rounds x.Legs.l (fun i (s : Int) => ⟨[(12, .d (I i)), (11, .d (I s)), (7, .p 0 0 0)], [some (.box (K1 10) (.d x.dv))]⟩) (fun _ _ => True) (fun _ s x c => c (w64 (s + x.Amount))) (fun s => k (.exit 0) [(49, .d (.b false)), (12, .d (I x.Legs.l.length)), (11, .d (I s)), (7, .p 0 0 0)] [some (.box (K1 10) (.d x.dv))]) ?_ ?_ (b0 := 0) h0 trivial]
 ·exact rounds_fold (fun _ s (x : ALeg) => w64 (s + x.Amount)) _ _ (fun _ _ _ _ => rfl) 0 0 x.Legs.l
 ·intro B _ s _
  simp [L1104_0]
 ·intro B _ i s hi _ c hc
  have h1 : (i : Int) < x.Legs.l.length := by omega
  have h3 := wr1 (i := i) (by omega)
  simp [L1104_0, h1, hi, h3]
  exact hc _ _ _ trivial (by simp [gc, Fr.keep, reach, frRefs, heapRefs, PV.refs, place, gcH, orefs, Obj.refs, PV.ren, Obj.ren, Heap.obj, Fr.ren, gh, List.idxOf?_cons, w64])
theorem law1104 (T : Tab) (hU : HU T) (hN : HN T) (hI : HI T) (hS : HS T) (hIt : HIt T) (hl : T.val 1106 [] = some (.d (.b true), false)) (b : ABooks) (hb : b.ok) (t : ATwo) (ht : t.ok) (n : Int) : T.val 1104 [b.dv, t.dv, I n] = some (.d (.b true), false) := by
 rw [val_k T (hS 1104 F1104 rfl) rfl]
 have e0 := val1105 T hU hS b hb
 have e1 := val727 T hU hN hI hS hIt b t.Old t.Now n hb ht.1 ht.2
 have e2 := val1107 T hU hN hS b t.Old t.Now n hb ht.1 ht.2
 have hs := entN_sum b t.Old t.Now n
 have hn := entN_len b t.Old t.Now n
 generalize entN b t.Old t.Now n = en at e1 e2 hs hn
 have e3 := val9' T hS en.1 en.1 (Nat.le_trans hn (by decide))
 rw [AEntry.beq_refl] at e3
 have lp := fun k fr H h => @lp1104_0 T en.1 hn k fr H h
 rw [hs] at lp
 by_cases hg : great26 b = true
 ·rw [hg] at e0
  simp [F1104, Fr.ofArgs, e0, hl, ATwo.fits]
 ·have hg' : great26 b = false := by simpa using hg
  rw [hg'] at e0
  simp [F1104, Fr.ofArgs, e0, e1, e2, e3, ATwo.fits, ATwo.n0, ATwo.n0', ATwo.n11]
  refine (lp _ _ _ (by simp [gc, Fr.keep, reach, frRefs, heapRefs, PV.refs, place, gcH, orefs, Obj.refs, PV.ren, Obj.ren, Heap.obj, Fr.ren, gh, List.idxOf?_cons])).trans ?_
  simp [hl]
end Go.Sim
end
end
